import PyProof.Rows.All
import Wide.All
import OpenK.AllK
import Wide.FinOn
import HandS.ForMost
import HandS.Zip
import HandS.Walk
import HandS.TupMul
import HandS.Wide
import HandS.ForExc
import HandS.Lambda
import HandS.TupAny
import HandS.IsInst
import HandS.Deep
import HandS.CallSlots
import HandS.Defaults
import HandS.WordsExc
import HandS.ListItems
import HandS.Head0
import HandS.Head1
import HandS.Head2
import HandS.HeadEnd
import HandS.HeadHook1
import HandS.HeadHook2
import HandS.HeadHook3
import HandS.HeadHook4
import HandS.HeadWalk
import KE.SortKeyHeap
import HandS.SortKw
import HandS.ExcInit
import HandS.ExcIs
import HandS.ExcField
import HandS.ExcOwn
import HandS.FStr
import HandS.SetFor
import KE.KExcIs
import KE.KDflt
import HandS.Conv
import PySem.Challenge.RW_probelots_k09_trees_read
set_option Elab.async false
set_option linter.all false
set_option maxRecDepth 100000

section
set_option Elab.async false
set_option linter.all false
set_option maxRecDepth 100000
/-! enumerate of a tuple. -/
namespace PbEn
open PySem
open AutoSeq1 (wpAny_loadPart')
theorem meets_enumerate_newT (l : Addr) (items : Array Value) (n : Nat) (dct : Option Addr) (sl : Array (Option Value)) :
    Meets (Builtin.«enumerate.__new__» ⟨[.type "enumerate", .ref l], []⟩) (fun _ R s => s.heap.get? l = some { cls := .type "tuple", dict := dct, data := .seq items n, slots := sl } ∧
      R (.ok (.ret (.ref (s.heap.push { cls := .type "tuple_iterator", data := .fields #[.ref l, .int 0 0] }).objs.size)))
        { s with heap := (s.heap.push { cls := .type "tuple_iterator", data := .fields #[.ref l, .int 0 0] }).push { cls := .type "enumerate", data := .fields #[.none, .bool false, .ref s.heap.objs.size, rawInt 0, .none, .none] } }) :=
  .of_wp fun prog w A R s h => by
    obtain ⟨hp, g, d, tk, os⟩ := s; obtain ⟨hl, h⟩ := h
    have hsub := sub_enumerate
    have hL : Heap.IsTuple (Shared.heap ⟨hp, g, d, tk, os⟩) l items := ⟨_, hl, rfl, n, rfl⟩
    wp_walk using wpAny_loadPart' hl
    refine wpAny_stack_any fun st => wpAny_pure ?_
    split
    · rename_i c _ _ _ _ _
      cases (c == Value.type "enumerate")
      · wp_walk using wpAny_loadPart' hl, wpAny_pyIter_tuple hL
        exact ⟨_, rfl, h⟩
      · wp_walk using wpAny_loadPart' hl, wpAny_pyIter_tuple hL
        exact ⟨_, rfl, h⟩
    · wp_walk using wpAny_loadPart' hl, wpAny_pyIter_tuple hL
      exact ⟨_, rfl, h⟩
section
variable {prog : Program} {w : World} {A : Around} {E : Value → Shared → Prop} {s : Shared}
theorem call_enumerate_tuple {l : Addr} {items : Array Value} {Q : Value → Shared → Prop} (hL : s.heap.IsTuple l items)
    (h : ∀ h', IsEnum h' (s.heap.objs.size + 1) s.heap.objs.size 0 .none → h'.IsTupleIter s.heap.objs.size l 0 → h'.objs.size = s.heap.objs.size + 2 →
      (∀ b o, s.heap.get? b = some o → h'.get? b = some o) → Q (.ref (s.heap.objs.size + 1)) { s with heap := h' }) :
    wpAny (model prog w) A (call (.type "enumerate") [.ref l]) Q E s := by
  obtain ⟨⟨c, dct, dt, sl⟩, hl, hc, n, hd⟩ := hL
  replace hc : c = .type "tuple" := hc
  replace hd : dt = .seq items n := hd
  subst hc hd
  refine callType_new F.called_enumerate (by decide) (F.typeCall_enumerate_1 _) (F.newCall_enumerate_1 _) (fun obj => F.args_object_init_2 obj _) F.entry_enumerate_new
    (meets_enumerate_newT l items n dct sl) ⟨hl, ?_⟩
  have hz : (s.heap.push { cls := .type "tuple_iterator", data := .fields #[.ref l, .int 0 0] }).objs.size = s.heap.objs.size + 1 := Heap.size_push ..
  show _ ∧ _
  rw [hz]
  have he : IsEnum ((s.heap.push { cls := .type "tuple_iterator", data := .fields #[.ref l, .int 0 0] }).push
      { cls := .type "enumerate", data := .fields #[.none, .bool false, .ref s.heap.objs.size, rawInt 0, .none, .none] }) (s.heap.objs.size + 1) s.heap.objs.size 0 .none := by
    have := Heap.get?_push_size (s.heap.push { cls := .type "tuple_iterator", data := .fields #[.ref l, .int 0 0] })
      (o := { cls := .type "enumerate", data := .fields #[.none, .bool false, .ref s.heap.objs.size, rawInt 0, .none, .none] }) rfl
    rw [hz] at this; exact this
  refine ⟨⟨_, he, rfl⟩, h _ he ⟨_, Heap.get?_push_of_some _ (Heap.get?_push_size _ rfl), rfl, rfl⟩ (by rw [Heap.size_push, hz]) fun b o x => Heap.get?_push_of_some _ (Heap.get?_push_of_some _ x)⟩
end
theorem drawsT {prog : Program} {w : World} {A : Around} (hh : A.handled = none) (it l : Addr) (hne : l ≠ it) (items : Array Value) :
    Draws prog w A it [it, l] items.size (fun i v => items[i]? = some v) (fun i h => h.IsTupleIter it l i ∧ h.IsTuple l items) where
  live := fun _ _ st => let ⟨o, ho, _⟩ := st.1; ⟨o, ho⟩
  frame := fun _ _ _ st hk => ⟨st.1.at fun o e => hk it (by simp) o e, st.2.at fun o e => hk l (by simp) o e⟩
  item := fun i s Q E hi st hQ => by
    refine RZ.nextOf_tuple_item st.1 st.2 (x := items[i]) (by simp [hi]) fun h' hit' hs' => ?_
    exact hQ _ h' s.toks (by simp [hi]) ⟨hit', st.2.extBut hs'.extBut hne⟩ hs'
  done := fun s Q E st hE => RZ.nextOf_tuple_end hh st.1 st.2 (by simp) hE
open PySem.Spec PyProof.Rows L2
/-- the tuple at a, each item in a new pair -/
def IteT (K : PySem.W.Frag) (a : Addr) : It :=
  ⟨fun i H => ∃ (xs : List V) (x : V), SqT K H a xs ∧ xs[i]? = some x, fun i H v H' => ∃ T x, v = .ref T ∧ H T = none ∧ H' = upd H T (.tup [.int (i : Nat), x]) ∧ ∀ xs, SqT K H a xs → xs[i]? = some x, fun i H => ∃ xs : List V, SqT K H a xs ∧ xs.length ≤ i⟩
theorem turn_enumT {P : Program} {w : World} {K : PySem.W.Frag} {elts : List Expr} {kk : Nat} {tpos : Pos} (a e it : Addr) (hne : e ≠ it) (hai : a ≠ it) (hea : e ≠ a) :
    Turn P w K (.Tuple elts kk tpos) (IteT K a) [e, it] e (fun i h => (∃ old, IsEnum h e it ((i : Nat) : Int) old) ∧ h.IsTupleIter it a i) where
  mem := by simp
  obj := fun i h st b hb => by
    obtain ⟨⟨old, he⟩, ⟨o, ho, hc, hd⟩⟩ := st
    have e' : b = e ∨ b = it := by simpa using hb
    rcases e' with z | z
    · rw [z]; exact ⟨_, he, fun v q => nomatch q⟩
    · rw [z]; exact ⟨o, ho, fun v q => by rw [hd] at q; cases q⟩
  keep := fun i h h' st k => let ⟨⟨old, he⟩, hi⟩ := st; ⟨⟨old, k e (by simp) _ he⟩, hi.at fun o q => k it (by simp) o q⟩
  item := by
    intro X hP hw hK hc i pins s σ H E I hf st hg
    subst hP hw hK
    obtain ⟨⟨old, he⟩, hit⟩ := st
    obtain ⟨xs, x, hq, hx⟩ := hg
    obtain ⟨its, rv, p, hz⟩ := I.tuple hq
    obtain ⟨u, hu, ru⟩ := rv.get hx
    have hel : e < s.heap.objs.size := Heap.lt_size he
    have hil : it < s.heap.objs.size := by obtain ⟨_, q, _⟩ := hit; exact Heap.lt_size q
    have hlt : i < its.toArray.size := by
      rw [List.size_toArray, ← rv.length]
      exact (List.getElem?_eq_some_iff.mp hx).1
    refine wpAny_pyNext_enum_itemD (drawsT (prog := X.prog) (w := X.w) (A := X.A.in1) (I.ok.hd hc) it a hai its.toArray) he ⟨hit, show s.heap.IsTuple a its.toArray from p⟩ hlt hne (by simp [hne, hea]) fun x' h' tk hx' ho hst' hT hsz hk => ?_
    have ex : x' = u := by
      have q : its.toArray[i]? = some u := by simpa using hu
      rw [q] at hx'
      exact (Option.some.inj hx').symm
    subst ex
    refine ⟨_, rfl, wpAny_letOwnedTupleGo_enum (s := { s with heap := h', toks := tk + 1 }) ho fun h'' he' sb => ?_⟩
    have hT2 : h''.get? s.heap.objs.size = some { cls := .type "tuple", data := .seq #[.int i tk, x'] } := (sb.2 _ (Nat.ne_of_gt hel)).trans hT
    have new : ObjOk X.prog X.w (upd H s.heap.objs.size (.tup [.int (i : Nat), x])) h'' s.heap.objs.size (.tup [.int (i : Nat), x]) :=
      ⟨by show 2 ≤ sizeLine; decide, [.int i tk, x'], .cons ⟨_, rfl⟩ (.cons ru .nil), ⟨_, hT2, rfl, _, rfl⟩⟩
    have I1 : Inv X pins σ (upd H s.heap.objs.size (.tup [.int (i : Nat), x])) { s with heap := h'', toks := tk + 1 } :=
      I.turnedNew (ch := [e, it]) (fun b ob hb q => (sb.2 b (fun z => hb (by simp [z]))).trans (hk b ob (fun z => hb (by simp [z])) (fun z => hb (by simp [z])) q)) hf (Nat.le_refl _) new
    refine ⟨.ref s.heap.objs.size, _, I1, rfl, ⟨_, x, rfl, I.hok.fresh (Nat.le_refl _), rfl, fun ys hy => by rw [I.tuple_inj hy hq]; exact hx⟩, ⟨⟨x', ?_⟩, hst'.1.at fun o q => (sb.2 it (Ne.symm hne)).trans q⟩, fun b hb => ?_⟩
    · have e1 : ((i + 1 : Nat) : Int) = (i : Int) + 1 := by omega
      rw [e1]; exact he'
    · have hb' : b < s.heap.objs.size := by
        have e' : b = e ∨ b = it := by simpa using hb
        rcases e' with z | z
        · rw [z]; exact hel
        · rw [z]; exact hil
      rw [upd_ne (Nat.ne_of_lt hb')]
      exact (hf b hb).1
  done := by
    intro X hP hw hK hc i pins s σ H E I hf st hg
    subst hP hw hK
    obtain ⟨⟨old, he⟩, hit⟩ := st
    obtain ⟨xs, hq, hx⟩ := hg
    obtain ⟨its, rv, p, hz⟩ := I.tuple hq
    obtain ⟨f0, f1, f2, f3, f4, f5⟩ := hf it (by simp)
    have hl := rv.length
    have hT : s.TypeIs (.ref e) "enumerate" := ⟨_, he, rfl⟩
    unfold pyNext
    refine wpAny_bind (wpAny_attempt (wpAny_callSpecial?_slot (name := Str.ofString "__next__") hT F.slot_enumerate_next
      (wpAny_call_entry F.slot_enumerate_next hT F.entry_enumerate_next ?_ (F.args_enumerate_next_1 _))))
    show wpAny _ _ (field (.ref e) 2 >>= _) _ _ _
    refine wpAny_bind (wpAny_field he rfl (x := .ref it) rfl ?_)
    refine wpAny_bind (RZ.nextOf_tuple_end (I.ok.hd hc) hit (show s.heap.IsTuple a its.toArray from p) (by simp; omega) fun h' x he' hx' => ?_)
    obtain ⟨o, ho, hc'⟩ := hx'
    refine wpAny_bind (wpAny_isInstance (T := "StopIteration") (b := true) ⟨o, ho, hc'⟩ isSubtype_stop ?_)
    exact wpAny_pure ⟨rfl, I.turned (t' := s.toks) (fun b o hb q => he' b o hb q) f0 f1 f3 f4 f5⟩
  self := fun A i s Q E st h => let ⟨⟨_, he⟩, _⟩ := st; wpAny_pyIter_enum he h
theorem walk_enumT {K : PySem.W.Frag} {a : Addr} {xs : List V} : Walk (IteT K a) xs.length (fun H => SqT K H a xs) (YPair (fun i => some (.int (i : Nat))) (fun i => xs[i]?)) := by
  refine ⟨fun i _ hi q => ⟨xs, xs[i], q, by simp [hi]⟩, fun _ q => ⟨xs, q, Nat.le_refl _⟩, fun i H v H' _ q y => ?_⟩
  obtain ⟨T, x, h1, h2, h3, h4⟩ := y
  exact ⟨T, .int (i : Nat), x, h1, h2, h3, rfl, h4 xs q⟩
def iEnumA (K : PySem.W.Frag) (ta : TA) : TI := fun σ H R => ta σ H fun vs H1 => ∃ a xs, vs = [.ref a] ∧ ((SqL K H1 a xs ∧ R (Ite K a) H1) ∨ (SqT K H1 a xs ∧ R (IteT K a) H1))
theorem pi_enumA {X : Cx} {e : Expr} {ta : TA} {p pos tpos : Pos} {elts : List Expr} {kk : Nat} (hg : Gl X "enumerate") (hm : X.mg "enumerate" = none) (ha : PA X [e] ta) (hs : starEach [e] X.env = [(false, eval e X.env)]) :
    PI X (.Tuple elts kk tpos) (.Call (.Name "enumerate" p) [e] [] pos) (iEnumA X.K ta) := by
  refine ⟨fun pins s σ H R I h => ?_⟩
  refine Call_ (ld_blt I hg hm boot_enumerate (PyProof.Rows.callWith_type1 (thn (ha.run pos pins s σ H _ I h) fun us s1 ⟨vs, H1, I1, r1, q1⟩ => ?_) hs rfl))
  obtain ⟨a, xs, ex, q1⟩ := q1
  subst ex
  cases r1 with
  | cons r rr =>
    cases rr
    cases r
    have fp : ∀ b, b ∈ [s1.heap.objs.size + 1, s1.heap.objs.size] → FpOk X pins H1 b := fun b hb => by
      have e' : b = s1.heap.objs.size + 1 ∨ b = s1.heap.objs.size := by simpa using hb
      have hle : s1.heap.objs.size ≤ b := by
        rcases e' with z | z
        · rw [z]; exact Nat.le_add_right _ _
        · rw [z]; exact Nat.le_refl _
      exact I1.fpOk hle (I1.hok.fresh hle)
    rcases q1 with ⟨hq, q⟩ | ⟨hq, q⟩
    · obtain ⟨its, rv, p', hz⟩ := I1.list hq
      refine call_enumerate_list p'.isList fun h' he hit hsz hk => wpAny_pyIter_enum he ?_
      have I2 : Inv X pins σ H1 { s1 with heap := h' } := I1.kept (t' := s1.toks) hk
      exact ⟨s1.heap.objs.size + 1, [s1.heap.objs.size + 1, s1.heap.objs.size], _, _, H1, rfl, I2, turn_enum a (s1.heap.objs.size + 1) s1.heap.objs.size, ⟨⟨.none, he⟩, hit, Nat.succ_ne_self _⟩, fp, q⟩
    · obtain ⟨its, rv, p', hz⟩ := I1.tuple hq
      have hal : a < s1.heap.objs.size := by
        obtain ⟨o, ho, _⟩ := id p'
        exact Heap.lt_size ho
      refine call_enumerate_tuple (show s1.heap.IsTuple a its.toArray from p') fun h' he hit hsz hk => wpAny_pyIter_enum he ?_
      have I2 : Inv X pins σ H1 { s1 with heap := h' } := I1.kept (t' := s1.toks) hk
      exact ⟨s1.heap.objs.size + 1, [s1.heap.objs.size + 1, s1.heap.objs.size], _, _, H1, rfl, I2, turn_enumT a (s1.heap.objs.size + 1) s1.heap.objs.size (Nat.succ_ne_self _) (Nat.ne_of_lt hal) (Nat.ne_of_gt (Nat.lt_succ_of_lt hal)), ⟨⟨.none, he⟩, hit⟩, fp, q⟩
end PbEn
end

section
set_option Elab.async false
set_option linter.all false
set_option maxRecDepth 100000
set_option maxHeartbeats 4000000
/-! tuple * int, whatever the count. -/
namespace PbTm
open PySem PySem.Spec PyProof.Rows L2
theorem tuple_mulS (l : Addr) (items : Array Value) (n : Nat) (dd : Option Addr) (sl : Array (Option Value)) (x : Int) (u : Tok) (c0 : (decide (x < -(2 ^ 63)) || decide (x ≥ 2 ^ 63)) = false) (c1 : (items.isEmpty || x == 1) = true) :
    Meets (Builtin.«tuple.__mul__» ⟨[.ref l, .int x u], []⟩) (fun _ R s => s.heap.get? l = some { cls := .type "tuple", dict := dd, data := .seq items n, slots := sl } ∧ R (.ok (.ret (Value.ref l))) s) :=
  .of_wp fun prog w A R s h => by
    obtain ⟨hp, g, d, tk, os⟩ := s
    obtain ⟨hl, h⟩ := h
    have f1 := AutoSeq1.idx_int
    have hT : Shared.TypeIs (⟨hp, g, d, tk, os⟩ : Shared) (.ref l) "tuple" := ⟨_, hl, rfl⟩
    wp_walk using AutoSeq1.wpAny_loadPart' hl, wpAny_typeOf hT
    repeat (first
      | (refine wpAny_ite_false (decide_eq_false (by rw [c0]; exact Bool.false_ne_true)) ?_; wp_walk using AutoSeq1.wpAny_loadPart' hl, wpAny_typeOf hT)
      | (refine wpAny_ite_true (decide_eq_true c1) ?_; wp_walk using AutoSeq1.wpAny_loadPart' hl, wpAny_typeOf hT))
    exact ⟨_, rfl, h⟩
theorem tuple_mulZ (l : Addr) (items : Array Value) (n : Nat) (dd : Option Addr) (sl : Array (Option Value)) (x : Int) (u : Tok) (c0 : (decide (x < -(2 ^ 63)) || decide (x ≥ 2 ^ 63)) = false) (c1 : (items.isEmpty || x == 1) = false) (c2 : (decide (x ≤ 0) || items.isEmpty) = true) :
    Meets (Builtin.«tuple.__mul__» ⟨[.ref l, .int x u], []⟩) (fun _ R s => s.heap.get? l = some { cls := .type "tuple", dict := dd, data := .seq items n, slots := sl } ∧
      R (.ok (.ret (Value.ref s.heap.objs.size))) { s with heap := s.heap.push { cls := Value.type "tuple", data := Data.seq #[] }, toks := s.toks }) :=
  .of_wp fun prog w A R s h => by
    obtain ⟨hp, g, d, tk, os⟩ := s
    obtain ⟨hl, h⟩ := h
    have f1 := AutoSeq1.idx_int
    wp_walk using AutoSeq1.wpAny_loadPart' hl
    repeat (first
      | (refine wpAny_ite_false (decide_eq_false (by rw [c0]; exact Bool.false_ne_true)) ?_; wp_walk using AutoSeq1.wpAny_loadPart' hl)
      | (refine wpAny_ite_false (decide_eq_false (by rw [c1]; exact Bool.false_ne_true)) ?_; wp_walk using AutoSeq1.wpAny_loadPart' hl)
      | (refine wpAny_ite_true (decide_eq_true c2) ?_; wp_walk using AutoSeq1.wpAny_loadPart' hl))
    exact ⟨_, rfl, h⟩
def rRepS (K : PySem.W.Frag) : R2 := fun x y H Q => ∃ l k xs, x = .ref l ∧ y = .int k ∧ SqT K H l xs ∧ -1000 ≤ k ∧ k ≤ 1000 ∧ ((xs = [] ∨ k = 1) ∧ Q (.ref l) H ∨ (xs ≠ [] ∧ k ≤ 0) ∧ ∀ p, H p = none → Q (.ref p) (upd H p (.tup [])))
theorem op_repS {X : Cx} : OpR X (binaryOp .Mult) (rRepS X.K) := by
  intro pins s σ H x y v u Q I rx ry h
  obtain ⟨l, k, xs, rfl, rfl, hT, h1, h2, q⟩ := h
  cases rx
  obtain ⟨t, rfl⟩ := ry
  obtain ⟨its, r, ⟨⟨cls, dd, data, sl⟩, ho, hc, n, hd⟩, hs⟩ := I.tuple hT
  simp only at hc hd
  subst hc hd
  have hle : its.length = xs.length := r.length.symm
  have c0 : (decide (k < -(2 ^ 63)) || decide (k ≥ 2 ^ 63)) = false := by
    rw [decide_eq_false (by omega), decide_eq_false (by omega)] <;> rfl
  have emp : its.toArray.isEmpty = decide (xs = []) := by
    cases its with
    | nil =>
      have : xs = [] := List.eq_nil_of_length_eq_zero hle.symm
      simp [this]
    | cons a b =>
      have : xs ≠ [] := fun e => by rw [e] at hle; cases hle
      simp [this]
  rcases q with ⟨hz, q⟩ | ⟨hz, q⟩
  · have c1 : (its.toArray.isEmpty || k == 1) = true := by
      rw [emp]
      rcases hz with hz | hz <;> simp [hz]
    refine wpAny_binaryOp_repeat_ref (T := "tuple") (U := "int") (by decide) ⟨_, ho, rfl⟩ (fun s' => typeIs_int s' k t) noFill_tuple_mul F.fills_int_mul F.slot_int_rmul repeat_tuple F.slot_int_index.lookup
      (call_meets F.slot_int_rmul (typeIs_int s k t) F.entry_int_rmul (F.args_int_rmul_2 _ _) (int_rmul_tuple k t l its.toArray n dd sl)
        ⟨ho, rfl, ⟨_, ho, rfl⟩, call_meets F.slot_tuple_mul ⟨_, ho, rfl⟩ F.entry_tuple_mul (F.args_tuple_mul_2 _ _) (tuple_mulS l its.toArray n dd sl k t c0 c1) ⟨ho, ?_⟩⟩)
    exact ⟨.ref l, H, I, rfl, q⟩
  · have c1 : (its.toArray.isEmpty || k == 1) = false := by
      rw [emp, decide_eq_false hz.1, Bool.false_or]
      exact beq_eq_false_iff_ne.mpr (by have := hz.2; omega)
    have c2 : (decide (k ≤ 0) || its.toArray.isEmpty) = true := by
      rw [decide_eq_true hz.2]
      rfl
    refine wpAny_binaryOp_repeat_ref (T := "tuple") (U := "int") (by decide) ⟨_, ho, rfl⟩ (fun s' => typeIs_int s' k t) noFill_tuple_mul F.fills_int_mul F.slot_int_rmul repeat_tuple F.slot_int_index.lookup
      (call_meets F.slot_int_rmul (typeIs_int s k t) F.entry_int_rmul (F.args_int_rmul_2 _ _) (int_rmul_tuple k t l its.toArray n dd sl)
        ⟨ho, rfl, ⟨_, ho, rfl⟩, call_meets F.slot_tuple_mul ⟨_, ho, rfl⟩ F.entry_tuple_mul (F.args_tuple_mul_2 _ _) (tuple_mulZ l its.toArray n dd sl k t c0 c1 c2) ⟨ho, ?_⟩⟩)
    refine ⟨.ref s.heap.objs.size, _, I.laid (t' := s.toks) (o := .tup []) (fun b ob q => Heap.get?_push_of_some _ q) (Nat.le_refl _) ?_, rfl, q _ (I.hok.fresh (Nat.le_refl _))⟩
    exact ⟨Nat.zero_le _, [], .nil, IsTup.new _ _⟩
end PbTm
end

section
set_option Elab.async false
set_option linter.all false
set_option maxRecDepth 100000
/-! The core language: data, the store, expressions and statements, and how they run (no program in sight). -/
namespace Pb
open PySem

/-! ### data -/
inductive D where
  | non | bool (b : Bool) | int (i : Int) | str (x : Str) | list (xs : List D) | tuple (xs : List D)
  | loc (n : Nat) | scr (ns : List Int) | clo (k : Nat)
  | lam (k : Nat) (lp : PySem.Addr → List (PySem.Addr × L2.HO) → Prop)

mutual
def D.eqv : D → D → Bool
  | .non, e => (match e with | .non => true | _ => false)
  | .bool a, e => (match e with | .bool b => a == b | .int j => (if a then 1 else 0) == j | _ => false)
  | .int i, e => (match e with | .bool b => i == (if b then 1 else 0) | .int j => i == j | _ => false)
  | .str x, e => (match e with | .str y => x == y | _ => false)
  | .list xs, e => (match e with | .list ys => D.eqvs xs ys | _ => false)
  | .tuple xs, e => (match e with | .tuple ys => D.eqvs xs ys | _ => false)
  | .loc _, _ => false
  | .scr _, _ => false
  | .clo _, _ => false
  | .lam _ _, _ => false
def D.eqvs : List D → List D → Bool
  | [], ys => (match ys with | [] => true | _ => false)
  | x :: xs, ys => (match ys with | y :: r => D.eqv x y && D.eqvs xs r | [] => false)
end

/-- data that may be compared: depth at most n, no place, no script, no def -/
def D.sh : Nat → D → Bool
  | _, .non => true
  | _, .bool _ => true
  | _, .int _ => true
  | _, .str x => PyData.strOk x
  | 0, .list _ => false
  | 0, .tuple _ => false
  | n + 1, .list xs => xs.all (D.sh n)
  | n + 1, .tuple xs => xs.all (D.sh n)
  | _, .loc _ => false
  | _, .scr _ => false
  | _, .clo _ => false
  | _, .lam _ _ => false

mutual
def D.py : D → PyData
  | .non => .none
  | .bool b => .bool b
  | .int i => .int i
  | .str x => .str x
  | .list xs => .list (D.pys xs)
  | .tuple xs => .tuple (D.pys xs)
  | .loc _ => .none
  | .scr _ => .none
  | .clo _ => .none
  | .lam _ _ => .none
def D.pys : List D → List PyData
  | [] => []
  | x :: xs => D.py x :: D.pys xs
end

theorem sh_ok : ∀ (n : Nat) (d : D), D.sh n d = true → (D.py d).canLay0 = true ∧ (D.py d).depth ≤ n := by
  intro n
  induction n with
  | zero => intro d h; cases d <;> simp_all [D.sh, D.py, PyData.canLay0, PyData.depth]
  | succ n ih =>
    have all : ∀ xs : List D, xs.all (D.sh n) = true → PyData.canLayAll0 (D.pys xs) = true ∧ PyData.depthAll (D.pys xs) ≤ n := by
      intro xs
      induction xs with
      | nil => intro _; simp [D.pys, PyData.canLayAll0, PyData.depthAll]
      | cons x xs ihx =>
        intro h
        rw [List.all_cons, Bool.and_eq_true] at h
        obtain ⟨h1, h2⟩ := ih x h.1
        obtain ⟨h3, h4⟩ := ihx h.2
        simp only [D.pys, PyData.canLayAll0, PyData.depthAll, h1, h3, Bool.and_self, true_and]
        omega
    intro d h
    cases d with
    | list xs =>
      obtain ⟨h1, h2⟩ := all xs (by simpa [D.sh] using h)
      simp only [D.py, PyData.canLay0, PyData.depth, h1, true_and]
      omega
    | tuple xs =>
      obtain ⟨h1, h2⟩ := all xs (by simpa [D.sh] using h)
      simp only [D.py, PyData.canLay0, PyData.depth, h1, true_and]
      omega
    | _ => simp_all [D.sh, D.py, PyData.canLay0, PyData.depth]
theorem sh_shaped {n : Nat} {d : D} (hn : n ≤ 64) (h : D.sh n d = true) : SeqAt.shaped (D.py d) = true := by
  obtain ⟨h1, h2⟩ := sh_ok n d h
  unfold SeqAt.shaped
  rw [h1, Bool.true_and, decide_eq_true_eq]
  omega
mutual
theorem eqv_py : ∀ (d e : D) (n m : Nat), D.sh n d = true → D.sh m e = true → PyData.eqv (D.py d) (D.py e) = D.eqv d e
  | .non, e, n, m, _, h => by cases e <;> simp_all [D.py, PyData.eqv, D.eqv, D.sh]
  | .bool a, e, n, m, _, h => by cases e <;> simp_all [D.py, PyData.eqv, D.eqv, D.sh]
  | .int i, e, n, m, _, h => by cases e <;> simp_all [D.py, PyData.eqv, D.eqv, D.sh]
  | .str x, e, n, m, _, h => by cases e <;> simp_all [D.py, PyData.eqv, D.eqv, D.sh]
  | .list xs, e, n, m, hd, h => by
    cases e with
    | list ys =>
      cases n with
      | zero => simp [D.sh] at hd
      | succ n =>
        cases m with
        | zero => simp [D.sh] at h
        | succ m =>
          simp only [D.py, PyData.eqv, D.eqv]
          exact eqvs_py xs ys n m (by simpa [D.sh] using hd) (by simpa [D.sh] using h)
    | _ => simp_all [D.py, PyData.eqv, D.eqv, D.sh]
  | .tuple xs, e, n, m, hd, h => by
    cases e with
    | tuple ys =>
      cases n with
      | zero => simp [D.sh] at hd
      | succ n =>
        cases m with
        | zero => simp [D.sh] at h
        | succ m =>
          simp only [D.py, PyData.eqv, D.eqv]
          exact eqvs_py xs ys n m (by simpa [D.sh] using hd) (by simpa [D.sh] using h)
    | _ => simp_all [D.py, PyData.eqv, D.eqv, D.sh]
  | .loc _, e, n, m, hd, _ => by cases n <;> simp [D.sh] at hd
  | .scr _, e, n, m, hd, _ => by cases n <;> simp [D.sh] at hd
  | .clo _, e, n, m, hd, _ => by cases n <;> simp [D.sh] at hd
  | .lam _ _, e, n, m, hd, _ => by cases n <;> simp [D.sh] at hd
theorem eqvs_py : ∀ (xs ys : List D) (n m : Nat), (∀ x ∈ xs, D.sh n x = true) → (∀ x ∈ ys, D.sh m x = true) → PyData.eqvAll (D.pys xs) (D.pys ys) = D.eqvs xs ys
  | [], ys, n, m, _, _ => by cases ys <;> simp [D.pys, PyData.eqvAll, D.eqvs]
  | x :: xs, ys, n, m, hx, hy => by
    cases ys with
    | nil => simp [D.pys, PyData.eqvAll, D.eqvs]
    | cons y ys =>
      simp only [D.pys, PyData.eqvAll, D.eqvs]
      rw [eqv_py x y n m (hx x (by simp)) (hy y (by simp)), eqvs_py xs ys n m (fun z hz => hx z (by simp [hz])) fun z hz => hy z (by simp [hz])]
end

/-! ### the store, what a run ends by -/
/-- an object that may change: a list, a dict (pairs in order), an instance (its class by number, its attributes in order) -/
inductive SO where
  | lst (xs : List D) | dct (kvs : List (D × D)) | ins (c : Nat) (fs : List (Str × D))
inductive Ec where
  | badPlan | badAnswers | badLot | badCount | badChances | noLot | badTree | badDeed | halted | badText
  deriving DecidableEq
structure Exn where
  c : Ec
  fs : List D
inductive R (α : Type) where
  | ok (a : α) (S : List SO) | exc (x : Exn) (S : List SO) | bad
def M (α : Type) := List SO → R α
def M.pure {α : Type} (a : α) : M α := fun S => .ok a S
def M.bind {α β : Type} (m : M α) (k : α → M β) : M β := fun S => match m S with
  | .ok a S' => k a S'
  | .exc x S' => .exc x S'
  | .bad => .bad
instance : Monad M where
  pure := M.pure
  bind := M.bind
def M.bad {α : Type} : M α := fun _ => .bad
def M.exc {α : Type} (x : Exn) : M α := fun S => .exc x S
/-- no exception is let out -/
def M.nox {α : Type} (m : M α) : M α := fun S => match m S with
  | .ok a S' => .ok a S'
  | _ => .bad
theorem M.pure_bind {α β : Type} (a : α) (k : α → M β) : (Pure.pure a >>= k) = k a := rfl
theorem M.bind_assoc {α β γ : Type} (m : M α) (k : α → M β) (l : β → M γ) : (m >>= k) >>= l = m >>= fun a => k a >>= l := by
  funext S
  show M.bind (M.bind m k) l S = M.bind m (fun a => M.bind (k a) l) S
  unfold M.bind
  cases m S <;> rfl
theorem M.bind_pure {α : Type} (m : M α) : (m >>= Pure.pure) = m := by
  funext S
  show M.bind m M.pure S = m S
  unfold M.bind M.pure
  cases m S <;> rfl
theorem M.bad_bind {α β : Type} (k : α → M β) : (M.bad >>= k) = M.bad := rfl
theorem M.exc_bind {α β : Type} (x : Exn) (k : α → M β) : (M.exc x >>= k) = M.exc x := rfl
instance : LawfulMonad M := LawfulMonad.mk' M (id_map := fun m => M.bind_pure m) (pure_bind := fun a k => rfl) (bind_assoc := M.bind_assoc)

/-- a value, or a list that is new -/
inductive Out where
  | v (d : D) | own (ds : List D)
def Out.d : Out → D
  | .v d => d
  | .own ds => .list ds
/-- a slot: not assigned, a value, a list of the frame's own that may change -/
inductive Sl where
  | un | v (d : D) | own (ds : List D)
abbrev Rho := List Sl

/-! ### the core language -/
inductive Fn where
  | is_number | is_lot | need_plan | need_lot | need_answers | need_count | rising | all_lots | answer_of | answers_of | answers | grid | beside
  | slips_of | lots_by | need_all | could | sure | apart | idle | kinds_of | kinds
  | divisor | part | need_chances | weight_of | weights | shares | each | tells
  | parted | need_tree_counts | best_tree | walked | read_tree | fi_init | fi_least | fi_found | fi_tree
  | written | number_of | read
  | de_init | de_plan | de_answers | de_lots | de_change | de_tell | de_probe | de_drop | de_do | de_batch | de_book | de_is_idle
  | l_row | l_taken | l_lot | l_plan | l_answers | l_said | l_lots | l_slips | l_alike | l_word | l_chances | l_weights | l_gcd | l_part | l_tells_too | l_sum
  | l_odd_plan | l_tree | l_drawn | l_odd_tree | l_desk | l_deed | l_done | l_may | l_due | l_told | l_spoilt | l_number | l_read | l_moved | l_all_of | law
  deriving DecidableEq
inductive Bop where
  | add | sub | mul | fdiv | mod | pow
  deriving DecidableEq
inductive Cop where
  | eq | ne | lt | le | gt | ge | mem | nmem
  deriving DecidableEq
inductive Ty where
  | non | bool | int | str | list | tuple
  deriving DecidableEq
def Ty.name : Ty → String
  | .non => "NoneType" | .bool => "bool" | .int => "int" | .str => "str" | .list => "list" | .tuple => "tuple"
def isB (a b : Ty) : Bool := match a, b with
  | .non, .non => true
  | .bool, .bool => true
  | .bool, .int => true
  | .int, .int => true
  | .str, .str => true
  | .list, .list => true
  | .tuple, .tuple => true
  | _, _ => false
inductive Prim where
  | len | isI (T : Ty) | is2 (T U : Ty) | all | any | tupOf | lstOf | intOf | min2 | max2 | sum | cntT | ixT
  deriving DecidableEq
/-- by what is sorted: (len(d), d); (len(d[0]), d[0]); (0 - d[1], len(d[0]), d[0]) -/
inductive SK where
  | self | fst | shr
  deriving DecidableEq
mutual
inductive Tg where
  | var (i : Nat) | tup (ts : Tgs)
inductive Tgs where
  | nil | cons (t : Tg) (ts : Tgs)
end
mutual
inductive CE where
  | var (i : Nat) | bor (i : Nat) | lit (d : D)
  | bin (op : Bop) (a b : CE) | cmp (op : Cop) (a b : CE) | isN (a : CE) | notN (a : CE) | chain (o p : Cop) (a b c : CE)
  | and (a b : CE) | or (a b : CE) | not (a : CE) | ite (c a b : CE)
  | tup (as : CA) | lst (as : CA) | idx (a i : CE) | slc (a : CE) (lo hi : Option CE)
  | call (f : Fn) (as : CA) | callb (f : Fn) (as : CA) | prim (p : Prim) (as : CA)
  | comp (elt : CE) (tg : Tg) (it : CI) (ifs : CA) (own : List Nat)
  | sortk (k : SK) (e : CE)
  | atE (i : Nat) (a : Nat) (d : D)
  | word (e : CE)
  | lamE (k : Nat) | rgT (as : CA) | rgL (as : CA)
  | wordL (e : CE) (tbl : CA)
inductive CA where
  | nil | cons (e : CE) (r : CA)
inductive CI where
  | rng (as : CA) | seq (e : CE) | zip (a b : CE) | enum (e : CE)
end
mutual
inductive CS where
  | set (i : Nat) (mu : Bool) (e : CE) | unp (t : Tg) (e : CE) | par2 (i j : Nat) (a b : CE)
  | app (i : Nat) (e : CE) | ext (i : Nat) (e : CE) | setI (o i e : CE) | drop (e : CE)
  | ite (c : CE) (a b : CB) | for_ (t : Tg) (it : CI) (b : CB) | while_ (c : CE) (b : CB)
  | ret (e : CE) | retO (i : Nat) | retL (as : CA) | never | told (i : Nat) (a b : CE) (f : Fn) (due e : CE) | raise (x : Ec) (as : CA)
inductive CB where
  | nil | cons (s : CS) (r : CB)
end
def CE.isBor : CE → Bool
  | .bor _ => true
  | _ => false
def CA.nb : CA → Bool
  | .nil => true
  | .cons e r => !e.isBor && r.nb

/-! ### how expressions run -/
def D.ints : List D → Option (List Int)
  | [] => some []
  | .int i :: r => (D.ints r).map (i :: ·)
  | _ :: _ => none
def D.bools : List D → Option (List Bool)
  | [] => some []
  | .bool b :: r => (D.bools r).map (b :: ·)
  | _ :: _ => none
def D.noLst : D → Bool
  | .list _ => false
  | .tuple xs => noLsts xs
  | .loc _ => false
  | .scr _ => false
  | .lam _ _ => false
  | _ => true
where noLsts : List D → Bool
  | [] => true
  | x :: xs => x.noLst && noLsts xs
def cutD (xs : List D) (lo hi : Option Int) : List D := (xs.drop (HT.sIx xs.length 0 lo)).take (HT.sIx xs.length xs.length hi - HT.sIx xs.length 0 lo)
def smallI (i : Int) : Bool := decide (-(2 ^ 64) < i) && decide (i < 2 ^ 64)
def binV : Bop → D → D → Option Out
  | .add, .int i, .int j => some (.v (.int (i + j)))
  | .add, .str x, .str y => if x.length + y.length ≤ sizeLine then some (.v (.str (x ++ y))) else none
  | .add, .tuple x, .tuple y => if x.length + y.length ≤ sizeLine then some (.v (.tuple (x ++ y))) else none
  | .add, .list x, .list y => if x.length + y.length ≤ sizeLine then some (.own (x ++ y)) else none
  | .sub, .int i, .int j => some (.v (.int (i - j)))
  | .mul, .int i, .int j => if smallI i || smallI j || decide (i.natAbs.log2 + j.natAbs.log2 < 1000000) then some (.v (.int (i * j))) else none
  | .mul, .tuple x, .int k => if -1000 ≤ k ∧ k ≤ 1000 ∧ x.length ≤ 1000 then some (.v (.tuple (List.replicate k.toNat x).flatten)) else none
  | .mul, .list x, .int k => if 0 ≤ k ∧ k ≤ 1000 ∧ x.length ≤ 1000 then some (.own (List.replicate k.toNat x).flatten) else none
  | .fdiv, .int i, .int j => if 0 < j ∧ j.natAbs.log2 < 9000 then some (.v (.int (i / j))) else none
  | .mod, .int i, .int j => if 0 < j then some (.v (.int (i % j))) else none
  | .pow, .int i, .int j => if 0 ≤ j ∧ j ≤ 1000000 ∧ i.natAbs < 2 ^ 64 then some (.v (.int (i ^ j.toNat))) else none
  | _, _, _ => none
def memV (x : D) : D → Option Bool
  | .tuple ys => if x.sh 60 && ys.all (D.sh 60) then some (ys.any fun y => D.eqv y x) else none
  | .list ys => if x.sh 60 && ys.all (D.sh 60) then some (ys.any fun y => D.eqv y x) else none
  | _ => none
def cmpV : Cop → D → D → Option Bool
  | .eq, a, b => if a.sh 60 && b.sh 60 then some (D.eqv a b) else none
  | .ne, a, b => if a.sh 60 && b.sh 60 then some (!D.eqv a b) else none
  | .lt, .int i, .int j => some (decide (i < j))
  | .le, .int i, .int j => some (decide (i ≤ j))
  | .gt, .int i, .int j => some (decide (j < i))
  | .ge, .int i, .int j => some (decide (j ≤ i))
  | .mem, a, b => memV a b
  | .nmem, a, b => (memV a b).map (!·)
  | _, _, _ => none
def D.ty : D → Option Ty
  | .non => some .non
  | .bool _ => some .bool
  | .int _ => some .int
  | .str _ => some .str
  | .list _ => some .list
  | .tuple _ => some .tuple
  | _ => none
def lenV : List D → Option Out
  | [.list xs] => some (.v (.int xs.length))
  | [.tuple xs] => some (.v (.int xs.length))
  | [.str x] => if x.length ≤ sizeLine then some (.v (.int x.length)) else none
  | [.scr ns] => some (.v (.int ns.length))
  | _ => none
def isV (T : Ty) : List D → Option Out
  | [d] => d.ty.map fun t => .v (.bool (isB t T))
  | _ => none
def is2V (T U : Ty) : List D → Option Out
  | [d] => d.ty.map fun t => .v (.bool (isB t T || isB t U))
  | _ => none
def allV : List D → Option Out
  | [.list xs] => (D.bools xs).map fun bs => .v (.bool (bs.all id))
  | _ => none
def anyV : List D → Option Out
  | [.list xs] => (D.bools xs).map fun bs => .v (.bool (bs.any id))
  | _ => none
def tupV : List D → Option Out
  | [.list xs] => some (.v (.tuple xs))
  | [.tuple xs] => some (.v (.tuple xs))
  | _ => none
def lstV : List D → Option Out
  | [.list xs] => some (.own xs)
  | [.tuple xs] => some (.own xs)
  | _ => none
def intV : List D → Option Out
  | [.int i] => some (.v (.int i))
  | [.bool b] => some (.v (.int (if b then 1 else 0)))
  | _ => none
def minV : List D → Option Out
  | [.int i, .int j] => some (.v (.int (if j < i then j else i)))
  | _ => none
def maxV : List D → Option Out
  | [.int i, .int j] => some (.v (.int (if j > i then j else i)))
  | _ => none
def sumV : List D → Option Out
  | [.list xs] => (D.ints xs).map fun is => .v (.int is.sum)
  | _ => none
/-- xs.count(True), xs.index(True) -/
def cntV : List D → Option Out
  | [.list xs] => (D.bools xs).map fun bs => .v (.int (bs.count true : Nat))
  | _ => none
def ixtV : List D → Option Out
  | [.list xs] => (D.bools xs).bind fun bs => if bs.idxOf true < bs.length then some (.v (.int (bs.idxOf true : Nat))) else none
  | _ => none
def primV : Prim → List D → Option Out
  | .len => lenV
  | .isI T => isV T
  | .is2 T U => is2V T U
  | .all => allV
  | .any => anyV
  | .tupOf => tupV
  | .lstOf => lstV
  | .intOf => intV
  | .min2 => minV
  | .max2 => maxV
  | .sum => sumV
  | .cntT => cntV
  | .ixT => ixtV
def idxV (S : List SO) : D → D → Option D
  | .list xs, .int i => L2.atI xs i
  | .tuple xs, .int i => L2.atI xs i
  | .scr ns, .int i => (L2.atI ns i).map .int
  | .loc n, .int i => match S[n]? with
    | some (.lst xs) => L2.atI xs i
    | _ => none
  | _, _ => none
def slcV : D → Option Int → Option Int → Option Out
  | .list xs, lo, hi => some (.own (cutD xs lo hi))
  | .tuple xs, lo, hi => some (.v (.tuple (cutD xs lo hi)))
  | _, _, _ => none
def ofOpt {α : Type} (o : Option α) : M α := match o with
  | some a => pure a
  | none => M.bad
mutual
def bindTg : Tg → D → Rho → Option Rho
  | .var i, d, r => some (r.set i (.v d))
  | .tup ts, .tuple ds, r => bindTgs ts ds r
  | .tup _, _, _ => none
def bindTgs : Tgs → List D → Rho → Option Rho
  | .nil, [], r => some r
  | .cons t ts, d :: ds, r => match bindTg t d r with
    | some r' => bindTgs ts ds r'
    | none => none
  | _, _, _ => none
end
def wipeR (r : Rho) : List Nat → Rho
  | [] => r
  | v :: vs => (wipeR r vs).set v .un
def rngV : List D → Option (List D)
  | [.int j] => if -(2 ^ 62) ≤ j ∧ j ≤ 16777216 then some ((List.range j.toNat).map fun (k : Nat) => .int (0 + k)) else none
  | [.int i, .int j] => if (-(2 ^ 62) ≤ i ∧ i < 2 ^ 62) ∧ (-(2 ^ 62) ≤ j ∧ j < 2 ^ 62) ∧ j - i ≤ 16777216 then some ((List.range (j - i).toNat).map fun (k : Nat) => .int (i + k)) else none
  | _ => none
/-- as an argument: range(b), range(a, b), range(a, b, c), c above 0 -/
def rng3V : List D → Option (List D)
  | [.int j] => if 0 ≤ j ∧ j ≤ 16777216 then some ((List.range j.toNat).map fun (k : Nat) => .int (0 + k)) else none
  | [.int i, .int j] => if (0 ≤ i ∧ i ≤ 16777216) ∧ (0 ≤ j ∧ j ≤ 16777216) then some ((List.range (j - i).toNat).map fun (k : Nat) => .int (i + k)) else none
  | [.int i, .int j, .int c] => if (0 ≤ i ∧ i ≤ 16777216) ∧ (0 ≤ j ∧ j ≤ 16777216) ∧ (0 < c ∧ c ≤ 16777216) then some ((List.range (if i < j then ((j - i - 1) / c + 1).toNat else 0)).map fun (k : Nat) => .int (i + k * c)) else none
  | _ => none
def seqV : D → Option (List D)
  | .list xs => some xs
  | .tuple xs => some xs
  | .scr ns => some (ns.map .int)
  | _ => none
def enumV (xs : List D) : List D := xs.zipIdx.map fun p => .tuple [.int (p.2 : Nat), p.1]
def zipV (xs ys : List D) : List D := (xs.zip ys).map fun p => .tuple [p.1, p.2]
def zip2V : D → D → Option (List D)
  | .list xs, .list ys => some (zipV xs ys)
  | .tuple xs, .tuple ys => some (zipV xs ys)
  | _, _ => none
/-- how many attributes an exception has -/
def exArity : Ec → Nat
  | .badLot => 0
  | .badCount => 0
  | .noLot => 0
  | .halted => 2
  | _ => 1
/-- the word of what is refused -/
def wname : Ec → Str
  | .badPlan => "plan"
  | .badAnswers => "answers"
  | .badChances => "chances"
  | .badDeed => "deed"
  | .halted => "halted"
  | .badTree => "tree"
  | .badText => "text"
  | .badLot => "lot"
  | .badCount => "count"
  | .noLot => "nolot"
def wordV (x : Exn) : D := match x.fs with
  | [] => .tuple [.str (wname x.c), .non]
  | [d] => .tuple [.str (wname x.c), d]
  | ds => .tuple [.str (wname x.c), .tuple ds]
/-- a comprehension's turns -/
def compGo (f : D → M (Option D)) : List D → M (List D)
  | [] => pure []
  | x :: xs => do
    let r ← f x
    let rs ← compGo f xs
    pure (match r with | some d => d :: rs | none => rs)
structure Lk where
  pu : Bool
  call : Fn → List D → M Out
  callp : Fn → List D → M Out
  /-- the lambdas of the frame, by number: how their objects stand -/
  lo : Nat → PySem.Addr → List (PySem.Addr × L2.HO) → Prop
/-- nothing of the store is changed -/
def Lk.pure (L : Lk) : Lk := ⟨true, L.callp, L.callp, L.lo⟩
def asBool : D → M Bool
  | .bool b => pure b
  | _ => M.bad
def asOptI : D → M (Option Int)
  | .int i => pure (some i)
  | _ => M.bad
def keyI : SK → D → Option (List Int)
  | .self, .tuple xs => (D.ints xs).map fun ns => (xs.length : Int) :: ns
  | .fst, .tuple (.tuple xs :: _) => (D.ints xs).map fun ns => (xs.length : Int) :: ns
  | .shr, .tuple (.tuple xs :: .int p :: _) => (D.ints xs).map fun ns => (0 - p) :: (xs.length : Int) :: ns
  | _, _ => none
def klt : List Int → List Int → Bool
  | [], [] => false
  | [], _ :: _ => true
  | _ :: _, [] => false
  | x :: xs, y :: ys => decide (x < y) || (decide (x = y) && klt xs ys)
def keyed (k : SK) : List D → Option (List (List Int × D))
  | [] => some []
  | d :: ds => match keyI k d, keyed k ds with
    | some i, some r => some ((i, d) :: r)
    | _, _ => none
def insK (p : List Int × D) : List (List Int × D) → List (List Int × D)
  | [] => [p]
  | q :: r => if klt p.1 q.1 then p :: q :: r else q :: insK p r
def sortK : List (List Int × D) → List (List Int × D)
  | [] => []
  | p :: r => insK p (sortK r)
def upK : List (List Int × D) → Bool
  | [] => true
  | p :: r => r.all (fun q => klt p.1 q.1) && upK r
def sortV (k : SK) : D → Option Out
  | .list xs => match keyed k xs with
    | some ps => if upK (sortK ps) then some (.own ((sortK ps).map (·.2))) else none
    | none => none
  | _ => none
open Classical in
mutual
noncomputable def ev (L : Lk) : CE → Rho → M Out
  | .var i, r => match r[i]? with
    | some (.v d) => pure (.v d)
    | _ => M.bad
  | .bor i, r => match r[i]? with
    | some (.own ds) => pure (.v (.list ds))
    | _ => M.bad
  | .lit d, _ => pure (.v d)
  | .bin op a b, r => do
    let x ← ev L a r
    let y ← ev L b r
    ofOpt (binV op x.d y.d)
  | .cmp op a b, r => do
    let x ← ev L a r
    let y ← ev L b r
    let c ← ofOpt (cmpV op x.d y.d)
    pure (.v (.bool c))
  | .isN a, r => do
    let x ← ev L a r
    pure (.v (.bool (match x.d with | .non => true | _ => false)))
  | .notN a, r => do
    let x ← ev L a r
    pure (.v (.bool (match x.d with | .non => false | _ => true)))
  | .chain o p a b c, r => do
    let x ← ev L a r
    let y ← ev L b r
    let t ← ofOpt (cmpV o x.d y.d)
    if t then do
      let z ← ev L c r
      let u ← ofOpt (cmpV p y.d z.d)
      pure (.v (.bool u))
    else pure (.v (.bool false))
  | .and a b, r => do
    let x ← ev L a r
    let t ← asBool x.d
    if t then (do let y ← ev L b r; let u ← asBool y.d; pure (.v (.bool u))) else pure (.v (.bool false))
  | .or a b, r => do
    let x ← ev L a r
    let t ← asBool x.d
    if t then pure (.v (.bool true)) else (do let y ← ev L b r; let u ← asBool y.d; pure (.v (.bool u)))
  | .not a, r => do
    let x ← ev L a r
    let t ← asBool x.d
    pure (.v (.bool (!t)))
  | .ite c a b, r => do
    let x ← ev L c r
    let t ← asBool x.d
    if t then (do let y ← ev L a r; pure (.v y.d)) else (do let y ← ev L b r; pure (.v y.d))
  | .tup as, r => if as.nb then (do let ds ← evA L as r; if ds.length ≤ sizeLine then pure (.v (.tuple ds)) else M.bad) else M.bad
  | .lst as, r => if as.nb then (do let ds ← evA L as r; if ds.length ≤ sizeLine then pure (.own ds) else M.bad) else M.bad
  | .idx a i, r => do
    let x ← ev L a r
    let y ← ev L i r
    fun S => match idxV S x.d y.d with
      | some d => .ok (.v d) S
      | none => .bad
  | .slc a lo hi, r => do
    let x ← ev L a r
    let l ← evO L lo r
    let h ← evO L hi r
    ofOpt (slcV x.d l h)
  | .call f as, r => if as.nb then (do let ds ← evA L as r; L.call f ds) else M.bad
  | .callb f as, r => do
    let ds ← evA L as r
    let o ← M.nox (L.callp f ds)
    match o with
    | .v d => if d.noLst then pure (.v d) else M.bad
    | .own _ => M.bad
  | .prim p as, r => do
    let ds ← evA L as r
    ofOpt (primV p ds)
  | .comp elt tg it ifs own, r => do
    let xs ← evI L it r
    let ds ← M.nox (compGo (fun x => match bindTg tg x (wipeR r own) with
      | some r' => do
        let b ← evT L ifs r'
        if b then (do let y ← ev L elt r'; pure (some y.d)) else pure none
      | none => M.bad) xs)
    pure (.own ds)
  | .sortk k e, r => do
    let x ← ev L e r
    ofOpt (sortV k x.d)
  | .atE i a d, r => match r[i]? with
    | some (.v (.clo b)) => if b = a then pure (.v d) else M.bad
    | _ => M.bad
  | .word e, r => fun S => match ev L e r S with
    | .ok o S' => .ok (.v (.tuple [.str Str.empty, o.d])) S'
    | .exc x S' => if x.fs.length = exArity x.c then .ok (.v (wordV x)) S' else .bad
    | .bad => .bad
  | .rgT as, r => do
    let ds ← evA L as r
    let xs ← ofOpt (rng3V ds)
    pure (.v (.tuple xs))
  | .rgL as, r => do
    let ds ← evA L as r
    let xs ← ofOpt (rng3V ds)
    pure (.own xs)
  | .lamE k, _ => pure (.v (.lam k (L.lo k)))
  | .wordL e tbl, r => do
    let x ← ev L e r
    match x.d with
    | .lam k lp => fun S => if lp = L.lo k then (match evN L tbl k r S with
      | .ok o S' => .ok (.v (.tuple [.str Str.empty, o.d])) S'
      | .exc x S' => if x.fs.length = exArity x.c then .ok (.v (wordV x)) S' else .bad
      | .bad => .bad) else .bad
    | _ => M.bad
/-- the k-th of them -/
noncomputable def evN (L : Lk) : CA → Nat → Rho → M Out
  | .nil, _, _ => M.bad
  | .cons e _, 0, r => ev L e r
  | .cons _ t, k + 1, r => evN L t k r
noncomputable def evA (L : Lk) : CA → Rho → M (List D)
  | .nil, _ => pure []
  | .cons e t, r => do
    let x ← ev L e r
    let xs ← evA L t r
    pure (x.d :: xs)
noncomputable def evO (L : Lk) : Option CE → Rho → M (Option Int)
  | none, _ => pure none
  | some e, r => do
    let x ← ev L e r
    asOptI x.d
/-- the tests of a comprehension -/
noncomputable def evT (L : Lk) : CA → Rho → M Bool
  | .nil, _ => pure true
  | .cons e t, r => do
    let x ← ev L e r
    let b ← asBool x.d
    if b then evT L t r else pure false
noncomputable def evI (L : Lk) : CI → Rho → M (List D)
  | .rng as, r => do
    let ds ← evA L as r
    ofOpt (rngV ds)
  | .seq e, r => do
    let x ← ev L e r
    ofOpt (seqV x.d)
  | .zip a b, r => do
    let x ← ev L a r
    let y ← ev L b r
    ofOpt (zip2V x.d y.d)
  | .enum e, r => do
    let x ← ev L e r
    let xs ← ofOpt (seqV x.d)
    pure (enumV xs)
end
/-! ### how statements run -/
inductive Fl where
  | nx (r : Rho) | rt (o : Out)
def forGo (f : D → Rho → M Fl) : List D → Rho → M Fl
  | [], r => pure (.nx r)
  | x :: xs, r => do
    match ← f x r with
    | .nx r' => forGo f xs r'
    | .rt o => pure (.rt o)
def whileGo (c : Rho → M Bool) (b : Rho → M Fl) : Nat → Rho → M Fl
  | 0, _ => M.bad
  | n + 1, r => do
    let t ← c r
    if t then (do
      match ← b r with
      | .nx r' => whileGo c b n r'
      | .rt o => pure (.rt o)) else pure (.nx r)
def setV (S : List SO) (o i d : D) : Option (List SO) := match o, i with
  | .loc n, .int k => match S[n]? with
    | some (.lst xs) => (L2.ixN xs.length k).map fun j => S.set n (.lst (xs.set j d))
    | _ => none
  | _, _ => none
/-- what an exception may be made of -/
def okX : Ec → List D → Bool
  | .badPlan, [.int i] => smallI i
  | .badAnswers, [.int i] => smallI i
  | .badChances, [.int i] => smallI i
  | .badDeed, [.int i] => smallI i
  | .badText, [.int i] => smallI i
  | .halted, [.int i, .int j] => smallI i && smallI j
  | .badTree, [_] => true
  | .badLot, [] => true
  | .badCount, [] => true
  | .noLot, [] => true
  | _, _ => false
mutual
noncomputable def exS (L : Lk) : CS → Rho → M Fl
  | .set i mu e, r => if mu then (do
      let o ← ev L.pure e r
      match o with
      | .own ds => pure (.nx (r.set i (.own ds)))
      | .v _ => M.bad) else (do
      let o ← ev L e r
      pure (.nx (r.set i (.v o.d))))
  | .unp t e, r => do
    let o ← ev L e r
    match bindTg t o.d r with
    | some r' => pure (.nx r')
    | none => M.bad
  | .par2 i j a b, r => if a.isBor || b.isBor then M.bad else (do
    let x ← ev L a r
    let y ← ev L b r
    pure (.nx ((r.set i (.v x.d)).set j (.v y.d))))
  | .app i e, r => match r[i]? with
    | some (.own ds) => do
      let x ← ev L e r
      if ds.length < sizeLine then pure (.nx (r.set i (.own (ds ++ [x.d])))) else M.bad
    | _ => M.bad
  | .ext i e, r => match r[i]? with
    | some (.own ds) => do
      let x ← ev L e r
      match x.d with
      | .list xs => if ds.length + xs.length ≤ sizeLine then pure (.nx (r.set i (.own (ds ++ xs)))) else M.bad
      | _ => M.bad
    | _ => M.bad
  | .setI o i e, r => do
    let x ← ev L e r
    let y ← ev L o r
    let z ← ev L i r
    fun S => if L.pu then .bad else match setV S y.d z.d x.d with
      | some S' => .ok (.nx r) S'
      | none => .bad
  | .drop e, r => do
    let _ ← ev L e r
    pure (.nx r)
  | .ite c a b, r => do
    let x ← ev L c r
    let t ← asBool x.d
    if t then exB L a r else exB L b r
  | .for_ t it b, r => do
    let xs ← evI L it r
    forGo (fun x r => match bindTg t x r with
      | some r' => exB L b r'
      | none => M.bad) xs r
  | .while_ c b, r => whileGo (fun r => do let x ← ev L c r; asBool x.d) (fun r => exB L b r) 100000 r
  | .ret e, r => do
    let o ← ev L e r
    pure (.rt o)
  | .retO i, r => match r[i]? with
    | some (.own ds) => pure (.rt (.own ds))
    | _ => M.bad
  | .retL as, r => if as.nb then (do
      let ds ← evA L as r
      fun S => if L.pu then .bad else if ds.length ≤ sizeLine then .ok (.rt (.v (.loc S.length))) (S ++ [.lst ds]) else .bad) else M.bad
  | .never, _ => M.bad
  | .told i a b f due e, r => if i < r.length then (do
    let o ← ev L.pure a r
    let y ← ev L.pure b r
    match o with
    | .own ds => do
      let z ← ev L.pure due (r.set i .un)
      let t ← M.nox (L.callp f [.list [.list ds, y.d], z.d])
      match t with
      | .v (.bool true) => do
        let _ ← ev L.pure e (r.set i .un)
        if ds.length < sizeLine then pure (.nx (r.set i .un)) else M.bad
      | .v (.bool false) => pure (.rt (.v (.bool false)))
      | _ => M.bad
    | .v _ => M.bad) else M.bad
  | .raise x as, r => if as.nb then (do let ds ← evA L as r; if okX x ds then M.exc ⟨x, ds⟩ else M.bad) else M.bad
noncomputable def exB (L : Lk) : CB → Rho → M Fl
  | .nil, r => pure (.nx r)
  | .cons s t, r => do
    match ← exS L s r with
    | .nx r' => exB L t r'
    | .rt o => pure (.rt o)
end
/-- a def: parameters, slots, whether it changes nothing, its body -/
structure FD where
  np : Nat
  ns : Nat
  pu : Bool
  body : CB
def CA.app : CA → CA → CA
  | .nil, b => b
  | .cons e r, b => .cons e (r.app b)
def start0 (n : Nat) (as : List D) : Rho := as.map .v ++ List.replicate (n - as.length) .un
noncomputable def runF (L : Lk) (fd : FD) (as : List D) : M Out := if as.length = fd.np then (do
  match ← exB L fd.body (start0 fd.ns as) with
  | .nx _ => pure (.v .non)
  | .rt o => pure o) else M.bad
/-- the defs of a program: texts, and those told apart -/
structure Tb where
  fd : Fn → Option FD
  pr : Fn → Option (Bool × (List D → M Out))
  lo : Nat → PySem.Addr → List (PySem.Addr × L2.HO) → Prop := fun _ _ _ => False
noncomputable def callN (T : Tb) : Nat → Bool → Fn → List D → M Out
  | 0, _, _, _ => M.bad
  | n + 1, pu, f, as => match T.pr f with
    | some (q, g) => if pu && !q then M.bad else g as
    | none => match T.fd f with
      | some d => if pu && !d.pu then M.bad else runF ⟨d.pu, callN T n d.pu, callN T n true, T.lo⟩ d as
      | none => M.bad
/-- what a def's body is run with -/
noncomputable abbrev lk (T : Tb) (n : Nat) (p : Bool) : Lk := ⟨p, callN T n p, callN T n true, T.lo⟩
end Pb
end

section
set_option Elab.async false
set_option linter.all false
set_option maxRecDepth 100000
/-! What stands for what: values and data, slots, the store; how it stays. -/
namespace Pb
open PySem PySem.Spec PyProof.Rows L2

mutual
/-- the value stands for the datum; Mu: the places that may change; al: the store's places -/
inductive Rep (K : PySem.W.Frag) (Mu : Addr → Prop) (al : List Addr) (H : Hp) : V → D → Prop
  | non : Rep K Mu al H .non .non
  | bool (b : Bool) : Rep K Mu al H (.bl b) (.bool b)
  | int (i : Int) : Rep K Mu al H (.int i) (.int i)
  | str (x : Str) : Rep K Mu al H (.str x) (.str x)
  | list {a : Addr} {xs : List V} {ds : List D} : H a = some (.lst xs) → ¬ Mu a → Reps K Mu al H xs ds → Rep K Mu al H (.ref a) (.list ds)
  | tuple {a : Addr} {xs : List V} {ds : List D} : H a = some (.tup xs) → ¬ Mu a → Reps K Mu al H xs ds → Rep K Mu al H (.ref a) (.tuple ds)
  | loc {a : Addr} {n : Nat} : al[n]? = some a → Rep K Mu al H (.ref a) (.loc n)
  | scr {a : Addr} {ns : List Int} : Rd H a (.lst (ns.map V.int)) → ¬ Mu a → Rep K Mu al H (.ref a) (.scr ns)
  | clo {a : Addr} : Rep K Mu al H (.ref a) (.clo a)
  | lam {a : Addr} {k : Nat} {lp : Addr → List (Addr × HO) → Prop} {l : List (Addr × HO)} : lp a l → (∀ p ∈ l, H p.1 = some p.2 ∧ ¬ Mu p.1 ∧ (∀ ps, p.2 ≠ .tbl ps)) → Rep K Mu al H (.ref a) (.lam k lp)
  | scrK {a : Addr} {ns : List Int} : SqL K (fun _ => none) a (ns.map V.int) → Rep K Mu al H (.ref a) (.scr ns)
inductive Reps (K : PySem.W.Frag) (Mu : Addr → Prop) (al : List Addr) (H : Hp) : List V → List D → Prop
  | nil : Reps K Mu al H [] []
  | cons {v : V} {vs : List V} {d : D} {ds : List D} : Rep K Mu al H v d → Reps K Mu al H vs ds → Reps K Mu al H (v :: vs) (d :: ds)
end
/-- the classes of exceptions; the tables of code objects -/
structure Ca where
  cls : Ec → Addr
  tabs : List (Addr × Str)
  xds : List (Addr × List (Str × V)) := []
  xvs : List (V × D) := []
/-- no table -/
def NT (o : HO) : Prop := ∀ ps, o ≠ .tbl ps
theorem nt_lst {xs : List V} : NT (.lst xs) := fun _ z => by cases z
theorem nt_tup {xs : List V} : NT (.tup xs) := fun _ z => by cases z
theorem nt_frz {o : Obj} {u : HO} : NT (.frz o u) := fun _ z => by cases z
theorem nt_xd {u : List (Str × V)} : NT (.xd u) := fun _ z => by cases z
/-- nothing but a table stands there -/
def Fre (H : Hp) (p : Addr) : Prop := ∀ o, H p = some o → ¬ NT o
theorem fre_none {H : Hp} {p : Addr} (h : H p = none) : Fre H p := fun o e => by
  rw [h] at e
  cases e
abbrev SameN (H H' : Hp) : Prop := LamX.ExtN H H'
abbrev MuA (Mu : Addr → Prop) (al : List Addr) : Addr → Prop := fun a => Mu a ∨ a ∈ al
/-- all that was tracked is as it was, but what stands at al -/
def Ext (al : List Addr) (H H' : Hp) : Prop := ∀ b o, b ∉ al → H b = some o → NT o → H' b = some o

section
variable {K : PySem.W.Frag} {Mu Mu' : Addr → Prop} {al al' : List Addr} {H H' : Hp}
theorem Reps.length : ∀ {vs : List V} {ds : List D}, Reps K Mu al H vs ds → vs.length = ds.length
  | _, _, .nil => rfl
  | _, _, .cons _ t => congrArg Nat.succ (Reps.length t)
theorem Reps.get : ∀ {vs : List V} {ds : List D} {i : Nat} {d : D}, Reps K Mu al H vs ds → ds[i]? = some d → ∃ v, vs[i]? = some v ∧ Rep K Mu al H v d
  | _, _, i, d, .nil, e => by simp at e
  | _, _, 0, d, .cons r _, e => by
    simp at e
    subst e
    exact ⟨_, rfl, r⟩
  | _, _, i + 1, d, .cons _ t, e => by
    obtain ⟨v, h1, h2⟩ := Reps.get (i := i) (d := d) t (by simpa using e)
    exact ⟨v, by simpa using h1, h2⟩
theorem Reps.getV : ∀ {vs : List V} {ds : List D} {i : Nat} {v : V}, Reps K Mu al H vs ds → vs[i]? = some v → ∃ d, ds[i]? = some d ∧ Rep K Mu al H v d
  | _, _, i, d, .nil, e => by simp at e
  | _, _, 0, d, .cons r _, e => by
    simp at e
    subst e
    exact ⟨_, rfl, r⟩
  | _, _, i + 1, d, .cons _ t, e => by
    obtain ⟨v, h1, h2⟩ := Reps.getV (i := i) (v := d) t (by simpa using e)
    exact ⟨v, by simpa using h1, h2⟩
theorem Reps.append : ∀ {vs ws : List V} {ds es : List D}, Reps K Mu al H vs ds → Reps K Mu al H ws es → Reps K Mu al H (vs ++ ws) (ds ++ es)
  | _, _, _, _, .nil, s => s
  | _, _, _, _, .cons r t, s => .cons r (Reps.append t s)
theorem Reps.take : ∀ {vs : List V} {ds : List D} (n : Nat), Reps K Mu al H vs ds → Reps K Mu al H (vs.take n) (ds.take n)
  | _, _, 0, _ => .nil
  | _, _, _ + 1, .nil => .nil
  | _, _, n + 1, .cons r t => .cons r (Reps.take n t)
theorem Reps.drop : ∀ {vs : List V} {ds : List D} (n : Nat), Reps K Mu al H vs ds → Reps K Mu al H (vs.drop n) (ds.drop n)
  | _, _, 0, r => r
  | _, _, _ + 1, .nil => .nil
  | _, _, n + 1, .cons _ t => Reps.drop n t
theorem Reps.set {v : V} {d : D} (r : Rep K Mu al H v d) : ∀ {vs : List V} {ds : List D} (i : Nat), Reps K Mu al H vs ds → Reps K Mu al H (vs.set i v) (ds.set i d)
  | _, _, _, .nil => .nil
  | _, _, 0, .cons _ t => .cons r t
  | _, _, i + 1, .cons q t => .cons q (Reps.set r i t)
theorem Reps.one {v : V} {d : D} (r : Rep K Mu al H v d) : Reps K Mu al H [v] [d] := .cons r .nil

/-- how what stands for something goes over to another heap -/
structure Goes (K : PySem.W.Frag) (Mu Mu' : Addr → Prop) (al al' : List Addr) (H H' : Hp) : Prop where
  st : ∀ a o, ¬ Mu a → H a = some o → NT o → H' a = some o
  mu : ∀ a o, ¬ Mu a → H a = some o → NT o → ¬ Mu' a
  al : ∀ (n : Nat) (a : Addr), al[n]? = some a → al'[n]? = some a
mutual
theorem Rep.go (g : Goes K Mu Mu' al al' H H') : ∀ {v : V} {d : D}, Rep K Mu al H v d → Rep K Mu' al' H' v d
  | _, _, .non => .non
  | _, _, .bool b => .bool b
  | _, _, .int i => .int i
  | _, _, .str x => .str x
  | _, _, .list h1 h2 h3 => .list (g.st _ _ h2 h1 nt_lst) (g.mu _ _ h2 h1 nt_lst) (Reps.go g h3)
  | _, _, .tuple h1 h2 h3 => .tuple (g.st _ _ h2 h1 nt_tup) (g.mu _ _ h2 h1 nt_tup) (Reps.go g h3)
  | _, _, .loc h => .loc (g.al _ _ h)
  | _, _, .scr h1 h2 => by
    rcases h1 with h | ⟨o, h⟩
    · exact .scr (.inl (g.st _ _ h2 h nt_lst)) (g.mu _ _ h2 h nt_lst)
    · exact .scr (.inr ⟨o, g.st _ _ h2 h nt_frz⟩) (g.mu _ _ h2 h nt_frz)
  | _, _, .scrK h => .scrK h
  | _, _, .clo => .clo
  | _, _, .lam h1 h2 => .lam h1 fun p hp => ⟨g.st _ _ (h2 p hp).2.1 (h2 p hp).1 (h2 p hp).2.2, g.mu _ _ (h2 p hp).2.1 (h2 p hp).1 (h2 p hp).2.2, (h2 p hp).2.2⟩
theorem Reps.go (g : Goes K Mu Mu' al al' H H') : ∀ {vs : List V} {ds : List D}, Reps K Mu al H vs ds → Reps K Mu' al' H' vs ds
  | _, _, .nil => .nil
  | _, _, .cons r t => .cons (Rep.go g r) (Reps.go g t)
end
end

/-! ### the store -/
def ObR (K : PySem.W.Frag) (Mu : Addr → Prop) (al : List Addr) (H : Hp) (a : Addr) : SO → Prop
  | .lst ds => ∃ vs, H a = some (.lst vs) ∧ Reps K Mu al H vs ds
  | .dct _ => False
  | .ins _ _ => False
/-- what may change: lists, dicts, instances -/
def MutL : Option HO → Prop
  | some (.lst _) => True
  | some (.dK _) => True
  | some (.dT _) => True
  | some (.ins _ _ _) => True
  | _ => False
structure StR (K : PySem.W.Frag) (ca : Ca) (Mu : Addr → Prop) (al : List Addr) (S : List SO) (H : Hp) : Prop where
  len : al.length = S.length
  nd : al.Nodup
  mu : ∀ a, a ∈ al → Mu a
  tr : ∀ a, Mu a → MutL (H a)
  ob : ∀ (n : Nat) (o : SO) (a : Addr), S[n]? = some o → al[n]? = some a → ObR K Mu al H a o
  tb : LamX.Tabs ca.tabs H
  xd : ∀ p ∈ ca.xds, H p.1 = some (.xd p.2)
  xr : ∀ p ∈ ca.xvs, Rep K Mu al H p.1 p.2
/-- a step of a run: from H to H' -/
structure Post (K : PySem.W.Frag) (ca : Ca) (pu : Bool) (Mu : Addr → Prop) (al : List Addr) (S : List SO) (al' : List Addr) (S' : List SO) (H H' : Hp) : Prop where
  ext : Ext al H H'
  free : ∀ q, Fre H' q → Fre H q
  app : ∃ new, al' = al ++ new ∧ ∀ a ∈ new, Fre H a
  st : StR K ca (MuA Mu al') al' S' H'
  pur : pu = true → al' = al ∧ S' = S ∧ SameN H H'
section
variable {K : PySem.W.Frag} {ca : Ca} {pu : Bool} {Mu : Addr → Prop} {al al1 al2 al' : List Addr} {S S1 S2 S' : List SO} {H H1 H2 H' : Hp}
theorem StR.trd (s : StR K ca Mu al S H) {a : Addr} (h : Mu a) : ∃ o, H a = some o := by
  have m := s.tr a h
  cases q : H a with
  | none => rw [q] at m; exact m.elim
  | some o => exact ⟨o, rfl⟩
theorem StR.ntd (s : StR K ca Mu al S H) {a : Addr} (h : Mu a) {o : HO} (e : H a = some o) : NT o := by
  have m := s.tr a h
  rw [e] at m
  intro ps z
  subst z
  exact m.elim
theorem muA_eq (h : ∀ a, a ∈ al → Mu a) : MuA Mu al = Mu := by
  funext a
  exact propext ⟨fun z => z.elim id (h a), Or.inl⟩
theorem muA_muA (h : ∀ a, a ∈ al → a ∈ al') : MuA (MuA Mu al) al' = MuA Mu al' := by
  funext a
  exact propext ⟨fun z => z.elim (fun z => z.elim Or.inl fun z => Or.inr (h a z)) Or.inr, fun z => z.elim (fun z => .inl (.inl z)) Or.inr⟩
theorem Post.sub (p : Post K ca pu Mu al S al' S' H H') : ∀ a, a ∈ al → a ∈ al' := fun a ha => by
  obtain ⟨new, e, _⟩ := p.app
  rw [e]
  exact List.mem_append_left _ ha
theorem Post.goes (s : StR K ca Mu al S H) (p : Post K ca pu Mu al S al' S' H H') : Goes K Mu (MuA Mu al') al al' H H' where
  st := fun a o h e => p.ext a o (fun z => h (s.mu a z)) e
  mu := fun a o h e nt z => by
    obtain ⟨new, ea, hn⟩ := p.app
    rcases z with z | z
    · exact h z
    · rw [ea] at z
      rcases List.mem_append.mp z with z | z
      · exact h (s.mu a z)
      · exact hn a z o e nt
  al := fun n a e => by
    obtain ⟨new, ea, _⟩ := p.app
    rw [ea, List.getElem?_append_left (List.getElem?_eq_some_iff.mp e).1]
    exact e
theorem Post.refl (s : StR K ca Mu al S H) : Post K ca pu Mu al S al S H H where
  ext := fun _ _ _ h _ => h
  free := fun _ h => h
  app := ⟨[], by simp, fun _ h => by cases h⟩
  st := by
    rw [muA_eq s.mu]
    exact s
  pur := fun _ => ⟨rfl, rfl, fun _ _ h _ => h⟩
theorem Post.trans (p : Post K ca pu Mu al S al1 S1 H H1) (q : Post K ca pu (MuA Mu al1) al1 S1 al2 S2 H1 H2) : Post K ca pu Mu al S al2 S2 H H2 where
  ext := fun b o hb e nt => q.ext b o (fun z => by
    obtain ⟨new, ea, hn⟩ := p.app
    rw [ea] at z
    rcases List.mem_append.mp z with z | z
    · exact hb z
    · exact hn b z o e nt) (p.ext b o hb e nt) nt
  free := fun b h => p.free b (q.free b h)
  app := by
    obtain ⟨new, ea, hn⟩ := p.app
    obtain ⟨new', ea', hn'⟩ := q.app
    refine ⟨new ++ new', by rw [ea', ea, List.append_assoc], fun a ha => ?_⟩
    rcases List.mem_append.mp ha with h | h
    · exact hn a h
    · exact p.free a (hn' a h)
  st := by
    have h := q.st
    rw [muA_muA q.sub] at h
    exact h
  pur := fun hp => by
    obtain ⟨a1, a2, a3⟩ := p.pur hp
    obtain ⟨b1, b2, b3⟩ := q.pur hp
    exact ⟨b1.trans a1, b2.trans a2, a3.trans b3⟩
theorem mut_nt {a : Addr} (h : MutL (H a)) : ∃ o, H a = some o ∧ NT o := by
  cases q : H a with
  | none => rw [q] at h; exact h.elim
  | some o =>
    refine ⟨o, rfl, fun ps z => ?_⟩
    rw [q, z] at h
    exact h.elim
/-- the store where nothing of it changed -/
theorem StR.sameN (s : StR K ca Mu al S H) (e : SameN H H') (t : LamX.Tabs ca.tabs H') : StR K ca Mu al S H' where
  len := s.len
  nd := s.nd
  mu := s.mu
  tr := fun a h => by
    have m := s.tr a h
    obtain ⟨o, q, n⟩ := mut_nt m
    rw [e a o q n]
    rw [q] at m
    exact m
  ob := fun n o a h1 h2 => by
    have g : Goes K Mu Mu al al H H' := ⟨fun a o _ q n => e a o q n, fun _ _ h _ _ => h, fun _ _ h => h⟩
    have q := s.ob n o a h1 h2
    cases o with
    | lst ds =>
      obtain ⟨vs, h3, h4⟩ := q
      exact ⟨vs, e a _ h3 nt_lst, Reps.go g h4⟩
    | dct _ => exact q
    | ins _ _ => exact q
  tb := t
  xd := fun p hp => e _ _ (s.xd p hp) nt_xd
  xr := fun p hp => (s.xr p hp).go ⟨fun a o _ q n => e a o q n, fun _ _ h _ _ => h, fun _ _ h => h⟩
theorem StR.same (s : StR K ca Mu al S H) (e : Same H H') : StR K ca Mu al S H' := s.sameN (LamX.ExtN.of e) (s.tb.ext e)
theorem free_sameN (e : SameN H H') : ∀ q, Fre H' q → Fre H q := fun q h o z nt => h o (e q o z nt) nt
theorem free_same (e : Same H H') : ∀ q, Fre H' q → Fre H q := free_sameN (LamX.ExtN.of e)
theorem Post.sameN (s : StR K ca Mu al S H) (e : SameN H H') (t : LamX.Tabs ca.tabs H') : Post K ca pu Mu al S al S H H' where
  ext := fun b o _ h n => e b o h n
  free := free_sameN e
  app := ⟨[], by simp, fun _ h => by cases h⟩
  st := by
    rw [muA_eq s.mu]
    exact s.sameN e t
  pur := fun _ => ⟨rfl, rfl, e⟩
theorem Post.same (s : StR K ca Mu al S H) (e : Same H H') : Post K ca pu Mu al S al S H H' := Post.sameN s (LamX.ExtN.of e) (s.tb.ext e)
theorem same_upd {p : Addr} {o : HO} (h : H p = none) : Same H (upd H p o) := fun b u e => by
  rw [upd_ne (ne_of_none e h)]
  exact e
/-- a weaker wish -/
theorem Post.weak (p : Post K ca true Mu al S al' S' H H') : Post K ca pu Mu al S al' S' H H' := ⟨p.ext, p.free, p.app, p.st, fun _ => p.pur rfl⟩
end
/-! ### what an expression hands back -/
/-- it may be read as: a value, or a list of the frame's own -/
def RepB (K : PySem.W.Frag) (Mu : Addr → Prop) (al : List Addr) (H : Hp) (v : V) (d : D) : Prop :=
  Rep K Mu al H v d ∨ ∃ a xs ds, v = .ref a ∧ d = .list ds ∧ H a = some (.lst xs) ∧ a ∉ al ∧ Reps K Mu al H xs ds
def OutR (K : PySem.W.Frag) (Mu : Addr → Prop) (al : List Addr) (H0 H : Hp) (v : V) : Out → Prop
  | .v d => Rep K Mu al H v d
  | .own ds => ∃ p xs, v = .ref p ∧ Fre H0 p ∧ ¬ Mu p ∧ H p = some (.lst xs) ∧ Reps K (fun a => Mu a ∨ a = p) al H xs ds
/-- b: it's a list of the frame's own that is read -/
def OutB (b : Bool) (K : PySem.W.Frag) (Mu : Addr → Prop) (al : List Addr) (H0 H : Hp) (v : V) (o : Out) : Prop :=
  if b = true then ∃ d, o = .v d ∧ RepB K Mu al H v d else OutR K Mu al H0 H v o
section
variable {K : PySem.W.Frag} {ca : Ca} {pu b : Bool} {Mu Mu' : Addr → Prop} {al al1 al2 al' : List Addr} {S S1 S2 S' : List SO} {H H0 H1 H2 H' : Hp} {v : V} {o : Out}
theorem OutR.rep (s : StR K ca Mu al S H) (h : OutR K Mu al H0 H v o) : Rep K Mu al H v o.d := by
  cases o with
  | v d => exact h
  | own ds =>
    obtain ⟨p, xs, rfl, _, h1, h2, h3⟩ := h
    exact .list h2 h1 (Reps.go ⟨fun _ _ _ e _ => e, fun _ _ n _ _ z => n (.inl z), fun _ _ e => e⟩ h3)
theorem OutB.repB (s : StR K ca Mu al S H) (h : OutB b K Mu al H0 H v o) : RepB K Mu al H v o.d := by
  unfold OutB at h
  split at h
  · obtain ⟨d, rfl, h⟩ := h
    exact h
  · exact .inl (h.rep s)
theorem OutB.rep (s : StR K ca Mu al S H) (h : OutB false K Mu al H0 H v o) : Rep K Mu al H v o.d := by
  unfold OutB at h
  rw [if_neg Bool.false_ne_true] at h
  exact h.rep s
theorem OutB.of (h : OutR K Mu al H0 H v o) : OutB false K Mu al H0 H v o := by
  unfold OutB
  rw [if_neg Bool.false_ne_true]
  exact h
theorem OutB.out (h : OutB false K Mu al H0 H v o) : OutR K Mu al H0 H v o := by
  unfold OutB at h
  rw [if_neg Bool.false_ne_true] at h
  exact h
theorem RepB.go (g : Goes K Mu Mu' al al' H H') (hx : Ext al H H') (hn : ∀ a, a ∈ al' → a ∈ al ∨ Fre H a) {v : V} {d : D} (h : RepB K Mu al H v d) : RepB K Mu' al' H' v d := by
  rcases h with h | ⟨a, xs, ds, h1, h2, h3, h4, h5⟩
  · exact .inl (h.go g)
  · refine .inr ⟨a, xs, ds, h1, h2, hx a _ h4 h3 nt_lst, fun z => ?_, Reps.go g h5⟩
    rcases hn a z with z | z
    · exact h4 z
    · exact z _ h3 nt_lst
theorem RepB.post (s : StR K ca Mu al S H) (p : Post K ca pu Mu al S al' S' H H') {v : V} {d : D} (h : RepB K Mu al H v d) : RepB K (MuA Mu al') al' H' v d :=
  h.go (p.goes s) p.ext fun a ha => by
    obtain ⟨new, e, hn⟩ := p.app
    rw [e] at ha
    exact (List.mem_append.mp ha).imp id (hn a)
/-- slots -/
structure EnvR (K : PySem.W.Frag) (Mu : Addr → Prop) (al : List Addr) (r : Rho) (σ : L2.St) (H : Hp) : Prop where
  len : r.length = σ.length
  vl : ∀ (i : Nat) (d : D), r[i]? = some (.v d) → ∃ v, σ[i]? = some (some v) ∧ Rep K Mu al H v d
  ow : ∀ (i : Nat) (ds : List D), r[i]? = some (.own ds) → ∃ a xs, σ[i]? = some (some (.ref a)) ∧ H a = some (.lst xs) ∧ Reps K Mu al H xs ds ∧ Mu a ∧ a ∉ al
  ap : ∀ (i j : Nat) (ds es : List D) (a : Addr), i ≠ j → r[i]? = some (.own ds) → r[j]? = some (.own es) → σ[i]? = some (some (.ref a)) → σ[j]? ≠ some (some (.ref a))
theorem EnvR.go {r : Rho} {σ : L2.St} (g : Goes K Mu Mu' al al' H H') (hx : Ext al H H') (hm : ∀ a, Mu a → Mu' a) (hn : ∀ a, a ∈ al' → a ∈ al ∨ Fre H a) (e : EnvR K Mu al r σ H) : EnvR K Mu' al' r σ H' where
  len := e.len
  vl := fun i d h => by
    obtain ⟨v, h1, h2⟩ := e.vl i d h
    exact ⟨v, h1, h2.go g⟩
  ow := fun i ds h => by
    obtain ⟨a, xs, h1, h2, h3, h4, h5⟩ := e.ow i ds h
    refine ⟨a, xs, h1, hx a _ h5 h2 nt_lst, Reps.go g h3, hm a h4, fun z => ?_⟩
    rcases hn a z with z | z
    · exact h5 z
    · exact z _ h2 nt_lst
  ap := e.ap
theorem EnvR.post {r : Rho} {σ : L2.St} (s : StR K ca Mu al S H) (p : Post K ca pu Mu al S al' S' H H') (e : EnvR K Mu al r σ H) : EnvR K (MuA Mu al') al' r σ H' :=
  e.go (p.goes s) p.ext (fun _ h => .inl h) fun a ha => by
    obtain ⟨new, e, hn⟩ := p.app
    rw [e] at ha
    exact (List.mem_append.mp ha).imp id (hn a)
end
end Pb
end

section
set_option Elab.async false
set_option linter.all false
set_option maxRecDepth 100000
set_option maxHeartbeats 1000000
/-! Goals of runs, one behind another; expressions. -/
namespace Pb
open PySem PySem.Spec PyProof.Rows L2

/-- the attributes of an exception -/
def exNames : Ec → List Str
  | .badPlan => ["number"] | .badAnswers => ["number"] | .badChances => ["number"] | .badDeed => ["number"]
  | .halted => ["number", "done"] | .badTree => ["way"] | .badText => ["row"]
  | .badLot => [] | .badCount => [] | .noLot => []
def ExR (K : PySem.W.Frag) (ca : Ca) (Mu : Addr → Prop) (al : List Addr) (H : Hp) (x : Exn) (cls : Value) (dx : Option Addr) : Prop :=
  cls = .ref (ca.cls x.c) ∧ ((exNames x.c = [] ∧ dx = none) ∨ ∃ d fs, dx = some d ∧ H d = some (.xd fs) ∧ ∀ (i : Nat) (nm : Str) (e : D), (exNames x.c)[i]? = some nm → x.fs[i]? = some e → ∃ v, fs.lookup nm = some v ∧ Rep K Mu al H v e)
abbrev RelT (α β : Type) := Hp → (Addr → Prop) → List Addr → Hp → β → α → Prop
/-- what is to be shown of a run -/
def Goal {α β : Type} (K : PySem.W.Frag) (ca : Ca) (pu : Bool) (Ex : XK) (Mu : Addr → Prop) (al : List Addr) (S : List SO) (H : Hp) (Rel : RelT α β) (res : R α) (Q : β → Hp → Prop) : Prop :=
  match res with
  | .ok o S' => ∀ v H' al', Post K ca pu Mu al S al' S' H H' → Rel H (MuA Mu al') al' H' v o → Q v H'
  | .exc x S' => ∀ cls dx H' al', Post K ca pu Mu al S al' S' H H' → ExR K ca (MuA Mu al') al' H' x cls dx → Ex cls dx H'
  | .bad => False
/-- a relation that leans on the heap ahead by what is free there alone -/
def Mono {α β : Type} (Rel : RelT α β) : Prop := ∀ H H1 : Hp, (∀ p, Fre H1 p → Fre H p) → ∀ Mu al H' v o, Rel H1 Mu al H' v o → Rel H Mu al H' v o
section
variable {K : PySem.W.Frag} {ca : Ca} {pu : Bool} {Ex : XK} {Mu : Addr → Prop} {al al1 : List Addr} {S S1 : List SO} {H H1 : Hp} {α β γ δ : Type}
theorem Goal.later {Rel : RelT α β} {res : R α} {Q : β → Hp → Prop} (mono : Mono Rel) (p : Post K ca pu Mu al S al1 S1 H H1) (h : Goal K ca pu Ex Mu al S H Rel res Q) : Goal K ca pu Ex (MuA Mu al1) al1 S1 H1 Rel res Q := by
  unfold Goal at h ⊢
  cases res with
  | ok o S' =>
    intro v H' al' q r
    rw [muA_muA q.sub] at r
    exact h v H' al' (p.trans q) (mono H H1 p.free _ _ _ _ _ r)
  | exc x S' =>
    intro cls dx H' al' q r
    rw [muA_muA q.sub] at r
    exact h cls dx H' al' (p.trans q) r
  | bad => exact h
/-- one run, then the rest -/
theorem Goal.seq {m : M α} {k : α → M γ} {Rel1 : RelT α β} {Rel : RelT γ δ} {Q : δ → Hp → Prop} {Q1 : β → Hp → Prop} (mono : Mono Rel) (h : Goal K ca pu Ex Mu al S H Rel ((m >>= k) S) Q)
    (h1 : ∀ o S1 al1 v H1, Post K ca pu Mu al S al1 S1 H H1 → Rel1 H (MuA Mu al1) al1 H1 v o → Goal K ca pu Ex (MuA Mu al1) al1 S1 H1 Rel (k o S1) Q → Q1 v H1) : Goal K ca pu Ex Mu al S H Rel1 (m S) Q1 := by
  have e : (m >>= k) S = M.bind m k S := rfl
  rw [e] at h
  unfold M.bind at h
  cases q : m S with
  | ok o S1 =>
    rw [q] at h
    intro v H1 al1 p r
    exact h1 o S1 al1 v H1 p r (Goal.later mono p h)
  | exc x S1 =>
    rw [q] at h
    exact h
  | bad =>
    rw [q] at h
    exact h
theorem Goal.ok {Rel : RelT α β} {o : α} {Q : β → Hp → Prop} (h : Goal K ca pu Ex Mu al S H Rel (.ok o S1) Q) {v : β} {H' : Hp} {al' : List Addr} (p : Post K ca pu Mu al S al' S1 H H') (r : Rel H (MuA Mu al') al' H' v o) : Q v H' := h v H' al' p r
end
abbrev ROut (K : PySem.W.Frag) (b : Bool) : RelT Out V := fun H0 Mu al H v o => OutB b K Mu al H0 H v o
theorem mono_out {K : PySem.W.Frag} {b : Bool} : Mono (ROut K b) := fun H H1 hf Mu al H' v o h => by
  cases b with
  | true => exact h
  | false =>
    have h := OutB.out h
    refine OutB.of ?_
    cases o with
    | v d => exact h
    | own ds =>
      obtain ⟨p, xs, h1, h2, h3⟩ := h
      exact ⟨p, xs, h1, hf p h2, h3⟩
/-- what a state must bear for an expression -/
def tD (K : PySem.W.Frag) (ca : Ca) (W : WX) (pu b : Bool) (run : Rho → M Out) : TE := fun σ H Q =>
  ∃ Mu al S r, EnvR K Mu al r σ H ∧ StR K ca Mu al S H ∧ Goal K ca pu (fun cls dx H' => W cls dx σ H') Mu al S H (ROut K b) (run r S) Q
theorem imE {X : Cx} {e : Expr} {t t' : TE} (h : PE X e t) (q : ∀ σ H Q, t' σ H Q → t σ H Q) : PE X e t' := ⟨fun pins s σ H Q I hw => h.run pins s σ H Q I (q _ _ _ hw)⟩
theorem imT {X : Cx} {e : Expr} {t t' : TT} (h : PT X e t) (q : ∀ σ H Q, t' σ H Q → t σ H Q) : PT X e t' := ⟨fun pins s σ H Q I hw => h.run pins s σ H Q I (q _ _ _ hw)⟩
theorem imS {X : Cx} {e : Stmt} {t t' : TS} (h : PS X e t) (q : ∀ D σ H, t' D σ H → t D σ H) : PS X e t' := ⟨fun pins s σ H D I hw => h.run pins s σ H D I (q _ _ _ hw)⟩
theorem imB {X : Cx} {e : List Stmt} {t t' : TS} (h : PSs X e t) (q : ∀ D σ H, t' D σ H → t D σ H) : PSs X e t' := ⟨fun pins s σ H D I hw => h.run pins s σ H D I (q _ _ _ hw)⟩
theorem imA {X : Cx} {e : List Expr} {t t' : TA} (h : PA X e t) (q : ∀ σ H Q, t' σ H Q → t σ H Q) : PA X e t' := ⟨fun pos pins s σ H Q I hw => h.run pos pins s σ H Q I (q _ _ _ hw)⟩
theorem imI {X : Cx} {tg e : Expr} {t t' : TI} (h : PI X tg e t) (q : ∀ σ H Q, t' σ H Q → t σ H Q) : PI X tg e t' := ⟨fun pins s σ H Q I hw => h.run pins s σ H Q I (q _ _ _ hw)⟩

section
variable {X : Cx} {ca : Ca} {W : WX} {pu : Bool} {L : Lk} {pos : Pos}
abbrev SE (X : Cx) (ca : Ca) (W : WX) (L : Lk) (e : Expr) (c : CE) : Prop := PE X e (tD X.K ca W L.pu c.isBor (ev L c))

/-! ### names, constants -/
theorem snd_var {i : Nat} {x : Str} (hN : X.N[i]? = some x) (hv : Vis X.env.scope x) (hd : (x == ("__debug__" : Str)) = false) (hcd : (x == ("__classdict__" : Str)) = false) : SE X ca W L (.Name x pos) (.var i) := by
  refine imE (pe_var hN hv hd hcd) fun σ H Q h => ?_
  obtain ⟨Mu, al, S, r, he, hs, hg⟩ := h
  have hg : Goal X.K ca L.pu _ Mu al S H (ROut X.K false) ((match r[i]? with | some (.v d) => pure (.v d) | _ => M.bad : M Out) S) Q := hg
  cases q : r[i]? with
  | none => rw [q] at hg; exact hg.elim
  | some sl =>
    rw [q] at hg
    cases sl with
    | un => exact hg.elim
    | own ds => exact hg.elim
    | v d =>
      obtain ⟨v, h1, h2⟩ := he.vl i d q
      exact ⟨v, h1, Goal.ok hg (Post.refl hs) (OutB.of (by rw [muA_eq hs.mu]; exact h2))⟩
theorem snd_bor {i : Nat} {x : Str} (hN : X.N[i]? = some x) (hv : Vis X.env.scope x) (hd : (x == ("__debug__" : Str)) = false) (hcd : (x == ("__classdict__" : Str)) = false) : SE X ca W L (.Name x pos) (.bor i) := by
  refine imE (pe_var hN hv hd hcd) fun σ H Q h => ?_
  obtain ⟨Mu, al, S, r, he, hs, hg⟩ := h
  have hg : Goal X.K ca L.pu _ Mu al S H (ROut X.K true) ((match r[i]? with | some (.own ds) => pure (.v (.list ds)) | _ => M.bad : M Out) S) Q := hg
  cases q : r[i]? with
  | none => rw [q] at hg; exact hg.elim
  | some sl =>
    rw [q] at hg
    cases sl with
    | un => exact hg.elim
    | v ds => exact hg.elim
    | own ds =>
      obtain ⟨a, xs, h1, h2, h3, h4, h5⟩ := he.ow i ds q
      refine ⟨_, h1, Goal.ok hg (Post.refl hs) ?_⟩
      show OutB true X.K (MuA Mu al) al H H (.ref a) (.v (.list ds))
      rw [muA_eq hs.mu]
      exact ⟨_, rfl, .inr ⟨a, xs, ds, rfl, rfl, h2, h5, h3⟩⟩
theorem snd_lit {e : Expr} {d : D} {v : V} (h : PE X e (tC v)) (r : ∀ Mu al H, Rep X.K Mu al H v d) : SE X ca W L e (.lit d) := by
  refine imE h fun σ H Q h => ?_
  obtain ⟨Mu, al, S, r', he, hs, hg⟩ := h
  exact Goal.ok (show Goal X.K ca L.pu _ Mu al S H (ROut X.K false) (.ok (.v d) S) Q from hg) (Post.refl hs) (OutB.of (r _ _ _))

/-! ### two operands -/
/-- two operands one behind the other -/
theorem two {c d : CE} {bb : Bool} {k : Out → Out → M Out} (σ : L2.St) (H : Hp) (Q : VK) {Rr : V → V → Hp → Prop}
    (h : ∃ Mu al S r, EnvR X.K Mu al r σ H ∧ StR X.K ca Mu al S H ∧ Goal X.K ca L.pu (fun cls dx H' => W cls dx σ H') Mu al S H (ROut X.K bb) ((do let x ← ev L c r; let y ← ev L d r; k x y) S) Q)
    (fin : ∀ Mu al S x y o1 o2 H2, StR X.K ca Mu al S H2 → RepB X.K Mu al H2 x o1.d → RepB X.K Mu al H2 y o2.d → Goal X.K ca L.pu (fun cls dx H' => W cls dx σ H') Mu al S H2 (ROut X.K bb) (k o1 o2 S) Q → Rr x y H2) :
    tD X.K ca W L.pu c.isBor (ev L c) σ H fun x H1 => tD X.K ca W L.pu d.isBor (ev L d) σ H1 fun y H2 => Rr x y H2 := by
  obtain ⟨Mu, al, S, r, he, hs, hg⟩ := h
  refine ⟨Mu, al, S, r, he, hs, Goal.seq mono_out hg fun o1 S1 al1 v1 H1 p1 r1 g1 => ?_⟩
  refine ⟨MuA Mu al1, al1, S1, r, he.post hs p1, p1.st, Goal.seq mono_out g1 fun o2 S2 al2 v2 H2 p2 r2 g2 => ?_⟩
  exact fin _ al2 S2 v1 v2 o1 o2 H2 p2.st ((r1.repB p1.st).post p1.st p2) (r2.repB p2.st) g2
theorem notMu {K : PySem.W.Frag} {Mu : Addr → Prop} {al : List Addr} {S : List SO} {H : Hp} (s : StR K ca Mu al S H) {p : Addr} (h : Fre H p) : ¬ Mu p := fun z => by
  obtain ⟨o, q, nt⟩ := mut_nt (s.tr p z)
  exact h o q nt
/-- a new tuple -/
theorem Goal.newTup {K : PySem.W.Frag} {Ex : XK} {Mu : Addr → Prop} {al : List Addr} {S : List SO} {H : Hp} {Q : VK} {xs : List V} {ds : List D} {p : Addr} (g : Goal K ca pu Ex Mu al S H (ROut K false) (.ok (.v (.tuple ds)) S) Q) (hs : StR K ca Mu al S H)
    (hr : Reps K Mu al H xs ds) (hp : H p = none) : Q (.ref p) (upd H p (.tup xs)) := by
  refine g.ok (Post.same hs (same_upd hp)) (OutB.of ?_)
  show Rep K (MuA Mu al) al _ _ _
  rw [muA_eq hs.mu]
  exact .tuple upd_same (notMu hs (fre_none hp)) (Reps.go ⟨fun a o _ e _ => same_upd hp a o e, fun _ _ h _ _ => h, fun _ _ h => h⟩ hr)
theorem Goal.newLst {K : PySem.W.Frag} {Ex : XK} {Mu : Addr → Prop} {al : List Addr} {S : List SO} {H : Hp} {Q : VK} {xs : List V} {ds : List D} {p : Addr} (g : Goal K ca pu Ex Mu al S H (ROut K false) (.ok (.own ds) S) Q) (hs : StR K ca Mu al S H)
    (hr : Reps K Mu al H xs ds) (hp : H p = none) : Q (.ref p) (upd H p (.lst xs)) := by
  refine g.ok (Post.same hs (same_upd hp)) (OutB.of ?_)
  show OutR K (MuA Mu al) al _ _ _ _
  rw [muA_eq hs.mu]
  have g : Goes K Mu (fun a => Mu a ∨ a = p) al al H (upd H p (.lst xs)) := {
    st := fun a o _ e _ => same_upd hp a o e
    al := fun _ _ h => h
    mu := fun a o n e _ z => z.elim n fun z => by
      rw [z, hp] at e
      cases e }
  exact ⟨p, xs, rfl, fre_none hp, notMu hs (fre_none hp), upd_same, Reps.go g hr⟩
/-- a value that stands for something as the heap is -/
theorem Goal.val {K : PySem.W.Frag} {Ex : XK} {Mu : Addr → Prop} {al : List Addr} {S : List SO} {H : Hp} {Q : VK} {v : V} {d : D} (g : Goal K ca pu Ex Mu al S H (ROut K false) (.ok (.v d) S) Q) (hs : StR K ca Mu al S H)
    (hr : Rep K Mu al H v d) : Q v H := by
  refine g.ok (Post.refl hs) (OutB.of ?_)
  show Rep K (MuA Mu al) al _ _ _
  rw [muA_eq hs.mu]
  exact hr
/-- what may be read as a list, a tuple -/
theorem RepB.list {K : PySem.W.Frag} {Mu : Addr → Prop} {al : List Addr} {H : Hp} {v : V} {ds : List D} (h : RepB K Mu al H v (.list ds)) : ∃ a xs, v = .ref a ∧ H a = some (.lst xs) ∧ Reps K Mu al H xs ds := by
  rcases h with h | ⟨a, xs, es, rfl, e, h, _, r⟩
  · cases h with
    | list h1 h2 h3 => exact ⟨_, _, rfl, h1, h3⟩
  · cases e
    exact ⟨a, xs, rfl, h, r⟩
theorem RepB.rep {K : PySem.W.Frag} {Mu : Addr → Prop} {al : List Addr} {H : Hp} {v : V} {d : D} (h : RepB K Mu al H v d) (n : ∀ ds, d ≠ .list ds) : Rep K Mu al H v d := by
  rcases h with h | ⟨a, xs, es, _, e, _⟩
  · exact h
  · exact absurd e (n _)
theorem RepB.tuple {K : PySem.W.Frag} {Mu : Addr → Prop} {al : List Addr} {H : Hp} {v : V} {ds : List D} (h : RepB K Mu al H v (.tuple ds)) : ∃ a xs, v = .ref a ∧ H a = some (.tup xs) ∧ ¬ Mu a ∧ Reps K Mu al H xs ds := by
  cases h.rep (fun _ z => by cases z) with
  | tuple h1 h2 h3 => exact ⟨_, _, rfl, h1, h2, h3⟩
theorem RepB.int {K : PySem.W.Frag} {Mu : Addr → Prop} {al : List Addr} {H : Hp} {v : V} {i : Int} (h : RepB K Mu al H v (.int i)) : v = .int i := by
  cases h.rep (fun _ z => by cases z)
  rfl
theorem RepB.str {K : PySem.W.Frag} {Mu : Addr → Prop} {al : List Addr} {H : Hp} {v : V} {i : Str} (h : RepB K Mu al H v (.str i)) : v = .str i := by
  cases h.rep (fun _ z => by cases z)
  rfl
theorem RepB.bool {K : PySem.W.Frag} {Mu : Addr → Prop} {al : List Addr} {H : Hp} {v : V} {i : Bool} (h : RepB K Mu al H v (.bool i)) : v = .bl i := by
  cases h.rep (fun _ z => by cases z)
  rfl
theorem RepB.non {K : PySem.W.Frag} {Mu : Addr → Prop} {al : List Addr} {H : Hp} {v : V} (h : RepB K Mu al H v .non) : v = .non := by
  cases h.rep (fun _ z => by cases z)
  rfl
end
end Pb
end

section
set_option Elab.async false
set_option linter.all false
set_option maxRecDepth 100000
set_option maxHeartbeats 1000000
/-! Operators, comparisons, tests. -/
namespace Pb
open PySem PySem.Spec PyProof.Rows L2

def bopOf : Bop → Operator
  | .add => .Add | .sub => .Sub | .mul => .Mult | .fdiv => .FloorDiv | .mod => .Mod | .pow => .Pow
def binR (K : PySem.W.Frag) : Bop → R2
  | .add => fun x y H Q => rI0 (fun i j => .int (i + j)) x y H Q ∨ (fun (x y : V) (H : Hp) (Q : VK) => ∃ i j, x = .str i ∧ y = .str j ∧ i.length + j.length ≤ sizeLine ∧ Q (.str (i ++ j)) H) x y H Q ∨ rCatA K x y H Q ∨ rCat x y H Q
  | .sub => rI0 fun i j => .int (i - j)
  | .mul => fun x y H Q => rI CMul (fun i j => .int (i * j)) x y H Q ∨ rI CMulW (fun i j => .int (i * j)) x y H Q ∨ rRepT K x y H Q ∨ PbTm.rRepS K x y H Q ∨ rRep x y H Q
  | .fdiv => rI CDivW fun i j => .int (i / j)
  | .mod => rI (fun _ j => 0 < j) fun i j => .int (i % j)
  | .pow => rI CPow fun i j => .int (i ^ j.toNat)
theorem smallI_of {i : Int} (h : smallI i = true) : -(2 ^ 64) < i ∧ i < 2 ^ 64 := by
  unfold smallI at h
  simpa using h
section
variable {X : Cx} {ca : Ca} {W : WX} {pu : Bool} {L : Lk} {pos : Pos}
theorem bin_op (op : Bop) : OpR X (binaryOp (bopOf op)) (binR X.K op) := by
  cases op with
  | add => exact OpR.or op_add (OpR.or op_add_str (OpR.or op_catA op_cat))
  | sub => exact op_sub
  | mul => exact OpR.or op_mul (OpR.or op_mulW (OpR.or op_repT (OpR.or PbTm.op_repS op_rep)))
  | fdiv => exact op_fdivW
  | mod => exact op_mod
  | pow => exact op_pow
theorem bin_ok {Ex : XK} {Mu : Addr → Prop} {al : List Addr} {S : List SO} {H : Hp} {Q : VK} {x y : V} {d e : D} (K : PySem.W.Frag) (op : Bop) (hs : StR K ca Mu al S H) (rx : RepB K Mu al H x d) (ry : RepB K Mu al H y e)
    (g : Goal K ca pu Ex Mu al S H (ROut K false) (ofOpt (binV op d e) S) Q) : binR K op x y H Q := by
  unfold binV at g
  split at g
  · cases rx.int; cases ry.int
    exact .inl ⟨_, _, rfl, rfl, Goal.val g hs (.int _)⟩
  · cases rx.str; cases ry.str
    split at g
    · rename_i hz
      exact .inr (.inl ⟨_, _, rfl, rfl, hz, Goal.val g hs (.str _)⟩)
    · exact g.elim
  · obtain ⟨a, xs, rfl, h1, h2, h3⟩ := rx.tuple
    obtain ⟨b, ys, rfl, k1, k2, k3⟩ := ry.tuple
    split at g
    · rename_i hz
      refine .inr (.inr (.inl ⟨a, b, xs, ys, rfl, rfl, SqT.of h1, SqT.of k1, by rw [h3.length, k3.length]; exact hz, fun e => ?_, fun _ e => ?_, fun _ _ p hp => ?_⟩))
      · subst e
        cases h3
        exact Goal.val g hs (.tuple k1 k2 k3)
      · subst e
        cases k3
        refine Goal.val g hs (.tuple h1 h2 ?_)
        rw [List.append_nil]
        exact h3
      · exact Goal.newTup g hs (h3.append k3) hp
    · exact g.elim
  · obtain ⟨a, xs, rfl, h1, h3⟩ := rx.list
    obtain ⟨b, ys, rfl, k1, k3⟩ := ry.list
    split at g
    · rename_i hz
      exact .inr (.inr (.inr ⟨a, b, xs, ys, rfl, rfl, h1, k1, by rw [h3.length, k3.length]; exact hz, fun p hp => Goal.newLst g hs (h3.append k3) hp⟩))
    · exact g.elim
  · cases rx.int; cases ry.int
    exact ⟨_, _, rfl, rfl, Goal.val g hs (.int _)⟩
  · cases rx.int; cases ry.int
    split at g
    · rename_i hz
      rw [Bool.or_eq_true, Bool.or_eq_true, decide_eq_true_eq] at hz
      rcases hz with hz | hz
      · exact .inl ⟨_, _, rfl, rfl, hz.imp smallI_of smallI_of, Goal.val g hs (.int _)⟩
      · exact .inr (.inl ⟨_, _, rfl, rfl, hz, Goal.val g hs (.int _)⟩)
    · exact g.elim
  · obtain ⟨a, xs, rfl, h1, h2, h3⟩ := rx.tuple
    cases ry.int
    split at g
    · rename_i k hz
      obtain ⟨z1, z2, z3⟩ := hz
      have hl := h3.length
      have hr : ∀ n, Reps K Mu al H (List.replicate n xs).flatten (List.replicate n _).flatten := fun n => by
        induction n with
        | zero => exact .nil
        | succ n ih =>
          rw [List.replicate_succ, List.replicate_succ, List.flatten_cons, List.flatten_cons]
          exact h3.append ih
      by_cases he : xs = []
      · subst he
        cases h3
        refine .inr (.inr (.inr (.inl ⟨a, _, [], rfl, rfl, SqT.of h1, z1, z2, .inl ⟨.inl rfl, Goal.val g hs (.tuple h1 h2 ?_)⟩⟩)))
        rw [show (List.replicate (_ : Int).toNat ([] : List D)).flatten = [] by simp]
        exact .nil
      · by_cases h1' : k = 1
        · subst h1'
          refine .inr (.inr (.inr (.inl ⟨a, _, xs, rfl, rfl, SqT.of h1, z1, z2, .inl ⟨.inr rfl, Goal.val g hs (.tuple h1 h2 ?_)⟩⟩)))
          have := hr 1
          simpa using this
        · by_cases h0 : k ≤ 0
          · refine .inr (.inr (.inr (.inl ⟨a, _, xs, rfl, rfl, SqT.of h1, z1, z2, .inr ⟨⟨he, h0⟩, fun p hp => Goal.newTup g hs ?_ hp⟩⟩)))
            rw [show k.toNat = 0 by omega]
            exact .nil
          · exact .inr (.inr (.inl ⟨a, _, xs, rfl, rfl, SqT.of h1, he, by omega, z2, by rw [hl]; exact z3, fun p hp => Goal.newTup g hs (hr _) hp⟩))
    · exact g.elim
  · obtain ⟨a, xs, rfl, h1, h3⟩ := rx.list
    cases ry.int
    split at g
    · rename_i hz
      obtain ⟨z1, z2, z3⟩ := hz
      have hl := h3.length
      have hk : (_ : Int).toNat ≤ 1000 := Int.toNat_le.mpr z2
      have hr : ∀ n, Reps K Mu al H (List.replicate n xs).flatten (List.replicate n _).flatten := fun n => by
        induction n with
        | zero => exact .nil
        | succ n ih =>
          rw [List.replicate_succ, List.replicate_succ, List.flatten_cons, List.flatten_cons]
          exact h3.append ih
      refine .inr (.inr (.inr (.inr ⟨a, _, xs, rfl, rfl, h1, by omega, by omega, ?_, fun p hp => Goal.newLst g hs (hr _) hp⟩)))
      rw [sizeLine_eq]
      refine Nat.le_trans (Nat.mul_le_mul (by rw [hl]; exact z3) hk) (by decide)
    · exact g.elim
  · cases rx.int; cases ry.int
    split at g
    · rename_i hz
      exact ⟨_, _, rfl, rfl, hz, Goal.val g hs (.int _)⟩
    · exact g.elim
  · cases rx.int; cases ry.int
    split at g
    · rename_i hz
      exact ⟨_, _, rfl, rfl, hz, Goal.val g hs (.int _)⟩
    · exact g.elim
  · cases rx.int; cases ry.int
    split at g
    · rename_i hz
      exact ⟨_, _, rfl, rfl, hz, Goal.val g hs (.int _)⟩
    · exact g.elim
  · exact g.elim
theorem snd_bin {a b : Expr} {c d : CE} {op : Bop} (ha : SE X ca W L a c) (hb : SE X ca W L b d) : SE X ca W L (.BinOp a (bopOf op) b pos) (.bin op c d) := by
  refine imE (pe_op (bin_op op) ha hb) fun σ H Q h => ?_
  refine two (L := L) (bb := false) (k := fun x y => ofOpt (binV op x.d y.d)) σ H Q h fun Mu al S x y o1 o2 H2 hs r1 r2 g => ?_
  exact bin_ok X.K op hs r1 r2 g

/-! ### comparisons -/
mutual
theorem Rep.dp {K : PySem.W.Frag} {Mu : Addr → Prop} {al : List Addr} {H : Hp} : ∀ {v : V} {d : D} (n : Nat), Rep K Mu al H v d → D.sh n d = true → Dp K H v (D.py d)
  | _, _, _, .non, _ => by simp only [D.py]; exact .non
  | _, _, _, .bool b, _ => by simp only [D.py]; exact .bl b
  | _, _, _, .int b, _ => by simp only [D.py]; exact .int b
  | _, _, _, .str b, _ => by simp only [D.py]; exact .str b
  | _, .list ds, 0, .list h1 h2 h3, h => by simp [D.sh] at h
  | _, .list ds, n + 1, .list h1 h2 h3, h => by
    simp only [D.py]
    exact .lst (SqL.of h1) (Reps.dp n h3 (by simpa [D.sh] using h))
  | _, .tuple ds, 0, .tuple h1 h2 h3, h => by simp [D.sh] at h
  | _, .tuple ds, n + 1, .tuple h1 h2 h3, h => by
    simp only [D.py]
    exact .tup (SqT.of h1) (Reps.dp n h3 (by simpa [D.sh] using h))
  | _, .loc k, n, .loc _, h => by cases n <;> simp [D.sh] at h
  | _, .scr k, n, .scr _ _, h => by cases n <;> simp [D.sh] at h
  | _, .scr k, n, .scrK _, h => by cases n <;> simp [D.sh] at h
  | _, .clo k, n, .clo, h => by cases n <;> simp [D.sh] at h
  | _, .lam k lp, n, .lam _ _, h => by cases n <;> simp [D.sh] at h
theorem Reps.dp {K : PySem.W.Frag} {Mu : Addr → Prop} {al : List Addr} {H : Hp} : ∀ {vs : List V} {ds : List D} (n : Nat), Reps K Mu al H vs ds → (∀ d ∈ ds, D.sh n d = true) → DpAll K H vs (D.pys ds)
  | _, _, _, .nil, _ => by simp only [D.pys]; exact .nil
  | _, _, n, .cons r t, h => by
    simp only [D.pys]
    exact .cons (Rep.dp n r (h _ (by simp))) (Reps.dp n t fun d hd => h d (by simp [hd]))
end
theorem RepB.dp {K : PySem.W.Frag} {Mu : Addr → Prop} {al : List Addr} {H : Hp} {v : V} {d : D} (n : Nat) (r : RepB K Mu al H v d) (h : D.sh n d = true) : Dp K H v (D.py d) := by
  rcases r with r | ⟨a, xs, ds, rfl, rfl, h1, _, h3⟩
  · exact Rep.dp n r h
  · cases n with
    | zero => simp [D.sh] at h
    | succ n =>
      simp only [D.py]
      exact .lst (SqL.of h1) (Reps.dp n h3 (by simpa [D.sh] using h))
def copOf : Cop → CmpOp
  | .eq => .Eq | .ne => .NotEq | .lt => .Lt | .le => .LtE | .gt => .Gt | .ge => .GtE | .mem => .In | .nmem => .NotIn
/-- x in y, deep -/
def rInG (K : PySem.W.Frag) (neg : Bool) : R2 := fun x y H Q => ∃ d ds, Dp K H x d ∧ (Dp K H y (.list ds) ∨ Dp K H y (.tuple ds)) ∧ SeqAt.shaped d = true ∧ SeqAt.shaped (.list ds) = true ∧ Q (.bl (if neg then !(ds.any fun z => PyData.eqv z d) else ds.any fun z => PyData.eqv z d)) H
theorem op_inG (hu : X.A.units + 65 < cLine) : OpR X (compareOp .In) (rInG X.K false) := by
  intro pins s σ H x y v u Q I rx ry h
  obtain ⟨d, ds, hd, he, sd, se, q⟩ := h
  obtain ⟨as, r1⟩ := Dp.reads I d x v hd rx
  rcases he with he | he
  · obtain ⟨bs, r2⟩ := Dp.reads I (.list ds) y u he ry
    exact SeqAt.in_list_reads r2 r1 (SeqAt.canLay_of_shaped se) (SeqAt.canLay_of_shaped sd) (room_in_shaped sd hu) ⟨.bl _, H, I, rfl, q⟩
  · obtain ⟨bs, r2⟩ := Dp.reads I (.tuple ds) y u he ry
    exact SeqAt.in_tuple_reads r2 r1 (SeqAt.canLay_of_shaped se) (SeqAt.canLay_of_shaped sd) (room_in_shaped sd hu) ⟨.bl _, H, I, rfl, q⟩
theorem op_notInG (hu : X.A.units + 65 < cLine) : OpR X (compareOp .NotIn) (rInG X.K true) := by
  intro pins s σ H x y v u Q I rx ry h
  obtain ⟨d, ds, hd, he, sd, se, q⟩ := h
  obtain ⟨as, r1⟩ := Dp.reads I d x v hd rx
  rcases he with he | he
  · obtain ⟨bs, r2⟩ := Dp.reads I (.list ds) y u he ry
    exact SeqAt.notIn_list_reads r2 r1 (SeqAt.canLay_of_shaped se) (SeqAt.canLay_of_shaped sd) (room_in_shaped sd hu) ⟨.bl _, H, I, rfl, q⟩
  · obtain ⟨bs, r2⟩ := Dp.reads I (.tuple ds) y u he ry
    exact SeqAt.notIn_tuple_reads r2 r1 (SeqAt.canLay_of_shaped se) (SeqAt.canLay_of_shaped sd) (room_in_shaped sd hu) ⟨.bl _, H, I, rfl, q⟩
def copR (K : PySem.W.Frag) : Cop → R2
  | .eq => rEqD K
  | .ne => rNeD K
  | .lt => rI0 fun i j => .bl (decide (i < j))
  | .le => rI0 fun i j => .bl (decide (i ≤ j))
  | .gt => rI0 fun i j => .bl (decide (j < i))
  | .ge => rI0 fun i j => .bl (decide (j ≤ i))
  | .mem => rInG K false
  | .nmem => rInG K true
theorem cop_op (hu : X.A.units + 65 < cLine) (op : Cop) : OpR X (compareOp (copOf op)) (copR X.K op) := by
  cases op with
  | eq => exact op_eqD (by omega)
  | ne => exact op_neD (by omega)
  | lt => exact op_lt
  | le => exact op_le
  | gt => exact op_gt
  | ge => exact op_ge
  | mem => exact op_inG hu
  | nmem => exact op_notInG hu
theorem pys_any {n m : Nat} {x : D} (hx : D.sh n x = true) : ∀ {ys : List D}, (∀ y ∈ ys, D.sh m y = true) → ((D.pys ys).any fun z => PyData.eqv z (D.py x)) = ys.any fun y => D.eqv y x
  | [], _ => by simp [D.pys]
  | y :: ys, h => by
    simp only [D.pys, List.any_cons]
    rw [eqv_py y x m n (h y (by simp)) hx, pys_any hx fun z hz => h z (by simp [hz])]
theorem shaped_list {xs : List D} (h : ∀ x ∈ xs, D.sh 60 x = true) : SeqAt.shaped (.list (D.pys xs)) = true := by
  have e : D.sh 61 (.list xs) = true := by simpa [D.sh] using h
  have := sh_shaped (by decide) e
  simpa only [D.py] using this
theorem RepB.dpl {K : PySem.W.Frag} {Mu : Addr → Prop} {al : List Addr} {H : Hp} {v : V} {ds : List D} (r : RepB K Mu al H v (.list ds)) (h : ∀ d ∈ ds, D.sh 60 d = true) : Dp K H v (.list (D.pys ds)) := by
  have e : D.sh 61 (.list ds) = true := by simpa [D.sh] using h
  have := RepB.dp 61 r e
  simpa only [D.py] using this
theorem RepB.dpt {K : PySem.W.Frag} {Mu : Addr → Prop} {al : List Addr} {H : Hp} {v : V} {ds : List D} (r : RepB K Mu al H v (.tuple ds)) (h : ∀ d ∈ ds, D.sh 60 d = true) : Dp K H v (.tuple (D.pys ds)) := by
  have e : D.sh 61 (.tuple ds) = true := by simpa [D.sh] using h
  have := RepB.dp 61 r e
  simpa only [D.py] using this
theorem mem_ok {K : PySem.W.Frag} {Mu : Addr → Prop} {al : List Addr} {H : Hp} {Q : VK} {x y : V} {d e : D} {neg c : Bool} (rx : RepB K Mu al H x d) (ry : RepB K Mu al H y e) (h : memV d e = some c) (q : Q (.bl (if neg then !c else c)) H) : rInG K neg x y H Q := by
  cases e with
  | tuple ys =>
    simp only [memV] at h
    split at h
    · rename_i hz
      rw [Bool.and_eq_true, List.all_eq_true] at hz
      have hc := Option.some.inj h
      refine ⟨_, _, RepB.dp 60 rx hz.1, .inr (RepB.dpt ry hz.2), sh_shaped (by decide) hz.1, shaped_list hz.2, ?_⟩
      rw [pys_any hz.1 hz.2, hc]
      exact q
    · cases h
  | list ys =>
    simp only [memV] at h
    split at h
    · rename_i hz
      rw [Bool.and_eq_true, List.all_eq_true] at hz
      have hc := Option.some.inj h
      refine ⟨_, _, RepB.dp 60 rx hz.1, .inl (RepB.dpl ry hz.2), sh_shaped (by decide) hz.1, shaped_list hz.2, ?_⟩
      rw [pys_any hz.1 hz.2, hc]
      exact q
    · cases h
  | _ => simp [memV] at h
theorem cop_ok {K : PySem.W.Frag} {Mu : Addr → Prop} {al : List Addr} {H : Hp} {Q : VK} {x y : V} {d e : D} {op : Cop} {c : Bool} (rx : RepB K Mu al H x d) (ry : RepB K Mu al H y e) (h : cmpV op d e = some c) (q : Q (.bl c) H) : copR K op x y H Q := by
  unfold cmpV at h
  split at h
  · split at h
    · rename_i hz
      rw [Bool.and_eq_true] at hz
      have hc := Option.some.inj h
      refine ⟨_, _, RepB.dp 60 rx hz.1, RepB.dp 60 ry hz.2, sh_shaped (by decide) hz.1, sh_shaped (by decide) hz.2, ?_⟩
      rw [eqv_py _ _ 60 60 hz.1 hz.2, hc]
      exact q
    · cases h
  · split at h
    · rename_i hz
      rw [Bool.and_eq_true] at hz
      have hc := Option.some.inj h
      refine ⟨_, _, RepB.dp 60 rx hz.1, RepB.dp 60 ry hz.2, sh_shaped (by decide) hz.1, sh_shaped (by decide) hz.2, ?_⟩
      rw [eqv_py _ _ 60 60 hz.1 hz.2, hc]
      exact q
    · cases h
  · cases rx.int; cases ry.int
    cases h
    exact ⟨_, _, rfl, rfl, q⟩
  · cases rx.int; cases ry.int
    cases h
    exact ⟨_, _, rfl, rfl, q⟩
  · cases rx.int; cases ry.int
    cases h
    exact ⟨_, _, rfl, rfl, q⟩
  · cases rx.int; cases ry.int
    cases h
    exact ⟨_, _, rfl, rfl, q⟩
  · exact mem_ok (neg := false) rx ry h q
  · cases hm : memV d e with
    | none =>
      rw [hm] at h
      cases h
    | some k =>
      rw [hm] at h
      have hc : (!k) = c := Option.some.inj h
      refine mem_ok (neg := true) rx ry hm ?_
      rw [hc.symm] at q
      exact q
  · cases h
theorem behind_ok {op : Cop} {b : Expr} {c : CE} (h : op ≠ .mem) (h2 : op ≠ .nmem) : behindInMarks (copOf op) b = false := by
  refine nomark b (fun z => ?_) fun z => ?_ <;> cases op <;> first | exact absurd rfl h | exact absurd rfl h2 | cases z
theorem cmp_imp {c d : CE} {op : Cop} (σ : L2.St) (H : Hp) (Q : VK) (h : tD X.K ca W L.pu false (ev L (.cmp op c d)) σ H Q) : tOp (copR X.K op) (tD X.K ca W L.pu c.isBor (ev L c)) (tD X.K ca W L.pu d.isBor (ev L d)) σ H Q := by
  refine two (L := L) (bb := false) (k := fun x y => do let c ← ofOpt (cmpV op x.d y.d); pure (.v (.bool c))) σ H Q h fun Mu al S x y o1 o2 H2 hs r1 r2 g => ?_
  cases q : cmpV op o1.d o2.d with
  | none =>
    have g : Goal X.K ca L.pu _ Mu al S H2 (ROut X.K false) ((ofOpt (cmpV op o1.d o2.d) >>= fun c => pure (.v (.bool c)) : M Out) S) Q := g
    rw [q] at g
    exact g.elim
  | some c =>
    have g : Goal X.K ca L.pu _ Mu al S H2 (ROut X.K false) ((ofOpt (cmpV op o1.d o2.d) >>= fun c => pure (.v (.bool c)) : M Out) S) Q := g
    rw [q] at g
    exact cop_ok r1 r2 q (Goal.val g hs (.bool c))
theorem snd_cmp {a b : Expr} {c d : CE} {op : Cop} (hu : X.A.units + 65 < cLine) (hb' : behindInMarks (copOf op) b = false) (ha : SE X ca W L a c) (hb : SE X ca W L b d) : SE X ca W L (.Compare a [copOf op] [b] pos) (.cmp op c d) :=
  imE (pe_cmpR (cop_op hu op) ha hb hb') cmp_imp
/-! ### tests -/
abbrev RBool : RelT Bool Bool := fun _ _ _ _ b o => b = o
theorem mono_bool : Mono RBool := fun _ _ _ _ _ _ _ _ h => h
def tT (K : PySem.W.Frag) (ca : Ca) (W : WX) (pu : Bool) (run : Rho → M Bool) : TT := fun σ H Q =>
  ∃ Mu al S r, EnvR K Mu al r σ H ∧ StR K ca Mu al S H ∧ Goal K ca pu (fun cls dx H' => W cls dx σ H') Mu al S H RBool (run r S) Q
noncomputable def evB (L : Lk) (c : CE) (r : Rho) : M Bool := do let x ← ev L c r; asBool x.d
abbrev ST (X : Cx) (ca : Ca) (W : WX) (L : Lk) (e : Expr) (c : CE) : Prop := PT X e (tT X.K ca W L.pu (evB L c))
theorem asBool_ok {d : D} {S S' : List SO} {b : Bool} (h : asBool d S = .ok b S') : d = .bool b ∧ S' = S := by
  cases d <;> first | (cases h; exact ⟨rfl, rfl⟩) | cases h
theorem test_imp {c : CE} (hc : c.isBor = false) (σ : L2.St) (H : Hp) (Q : Bool → Hp → Prop) (h : tT X.K ca W L.pu (evB L c) σ H Q) : tD X.K ca W L.pu c.isBor (ev L c) σ H fun x H' => ∃ k, x = .bl k ∧ Q k H' := by
  obtain ⟨Mu, al, S, r, he, hs, hg⟩ := h
  refine ⟨Mu, al, S, r, he, hs, Goal.seq mono_bool hg fun o1 S1 al1 v1 H1 p1 r1 g1 => ?_⟩
  have r1 := r1.repB p1.st
  cases q : asBool o1.d S1 with
  | ok b S' =>
    rw [q] at g1
    obtain ⟨e1, e2⟩ := asBool_ok q
    subst e2
    rw [e1] at r1
    exact ⟨b, r1.bool, g1.ok (Post.refl p1.st) rfl⟩
  | exc x S' => rw [q] at g1; cases h : o1.d <;> rw [h] at q <;> cases q
  | bad => rw [q] at g1; exact g1.elim
theorem st_val {e : Expr} {c : CE} (hc : c.isBor = false) (h : SE X ca W L e c) (he : ∀ whole, isTrue e X.env whole = (do let v ← whole; standAt e.pos; holding [v] (truthy v))) : ST X ca W L e c :=
  imT (pt_val h he) (test_imp hc)
theorem st_cmp {a b : Expr} {c d : CE} {op : Cop} (hu : X.A.units + 65 < cLine) (hb' : behindInMarks (copOf op) b = false) (ha : SE X ca W L a c) (hb : SE X ca W L b d) : ST X ca W L (.Compare a [copOf op] [b] pos) (.cmp op c d) :=
  imT (pt_cmpR (cop_op hu op) ha hb hb') fun σ H Q h => cmp_imp σ H _ (test_imp rfl σ H Q h)
/-! ### is None -/
theorem isN_imp {c : CE} (σ : L2.St) (H : Hp) (Q : VK) (h : tD X.K ca W L.pu false (ev L (.isN c)) σ H Q) : tIsN (tD X.K ca W L.pu c.isBor (ev L c)) σ H Q := by
  obtain ⟨Mu, al, S, r, he, hs, hg⟩ := h
  refine ⟨Mu, al, S, r, he, hs, Goal.seq mono_out hg fun o1 S1 al1 v1 H1 p1 r1 g1 => ?_⟩
  have r1 := r1.repB p1.st
  have e : decide (v1 = V.non) = (match o1.d with | .non => true | _ => false) := by
    generalize o1.d = d1 at r1
    rcases r1 with r1 | ⟨a, xs, ds, h1, h2, _⟩
    · cases r1 <;> rfl
    · rw [h1, h2]
      rfl
  rw [e]
  exact Goal.val g1 p1.st (.bool _)
theorem notN_imp {c : CE} (σ : L2.St) (H : Hp) (Q : VK) (h : tD X.K ca W L.pu false (ev L (.notN c)) σ H Q) : tNotN (tD X.K ca W L.pu c.isBor (ev L c)) σ H Q := by
  obtain ⟨Mu, al, S, r, he, hs, hg⟩ := h
  refine ⟨Mu, al, S, r, he, hs, Goal.seq mono_out hg fun o1 S1 al1 v1 H1 p1 r1 g1 => ?_⟩
  have r1 := r1.repB p1.st
  have e : (!decide (v1 = V.non)) = (match o1.d with | .non => false | _ => true) := by
    generalize o1.d = d1 at r1
    rcases r1 with r1 | ⟨a, xs, ds, h1, h2, _⟩
    · cases r1 <;> rfl
    · rw [h1, h2]
      rfl
  rw [e]
  exact Goal.val g1 p1.st (.bool _)
theorem snd_isN {a : Expr} {c : CE} {j : Nat} {p' : Pos} (ha : SE X ca W L a c) : SE X ca W L (.Compare a [.Is] [.Constant .none j p'] pos) (.isN c) := imE (pe_cmp (pc_isN ha)) isN_imp
theorem snd_notN {a : Expr} {c : CE} {j : Nat} {p' : Pos} (ha : SE X ca W L a c) : SE X ca W L (.Compare a [.IsNot] [.Constant .none j p'] pos) (.notN c) := imE (pe_cmp (pc_notN ha)) notN_imp
theorem st_isN {a : Expr} {c : CE} {j : Nat} {p' : Pos} (ha : SE X ca W L a c) : ST X ca W L (.Compare a [.Is] [.Constant .none j p'] pos) (.isN c) := imT (pt_cmp (pc_isN ha)) fun σ H Q h => isN_imp σ H _ (test_imp rfl σ H Q h)
theorem st_notN {a : Expr} {c : CE} {j : Nat} {p' : Pos} (ha : SE X ca W L a c) : ST X ca W L (.Compare a [.IsNot] [.Constant .none j p'] pos) (.notN c) := imT (pt_cmp (pc_notN ha)) fun σ H Q h => notN_imp σ H _ (test_imp rfl σ H Q h)
end
end Pb
end

section
set_option Elab.async false
set_option linter.all false
set_option maxRecDepth 100000
set_option maxHeartbeats 1000000
/-! Chains, and, or, not, if-else, displays, places, slices. -/
namespace Pb
open PySem PySem.Spec PyProof.Rows L2
section
variable {X : Cx} {ca : Ca} {W : WX} {pu : Bool} {L : Lk} {pos : Pos}
theorem chain_imp {a b c : CE} {o p : Cop} (σ : L2.St) (H : Hp) (Q : VK) (h : tD X.K ca W L.pu false (ev L (.chain o p a b c)) σ H Q) :
    tChain (copR X.K o) (copR X.K p) (tD X.K ca W L.pu a.isBor (ev L a)) (tD X.K ca W L.pu b.isBor (ev L b)) (tD X.K ca W L.pu c.isBor (ev L c)) σ H Q := by
  obtain ⟨Mu, al, S, r, he, hs, hg⟩ := h
  refine ⟨Mu, al, S, r, he, hs, Goal.seq mono_out hg fun o1 S1 al1 v1 H1 p1 r1 g1 => ?_⟩
  refine ⟨MuA Mu al1, al1, S1, r, he.post hs p1, p1.st, Goal.seq mono_out g1 fun o2 S2 al2 v2 H2 p2 r2 g2 => ?_⟩
  have q1 := (r1.repB p1.st).post p1.st p2
  have q2 := r2.repB p2.st
  cases q : cmpV o o1.d o2.d with
  | none =>
    rw [q] at g2
    exact g2.elim
  | some t =>
    rw [q] at g2
    refine cop_ok q1 q2 q ⟨t, rfl, ?_⟩
    cases t with
    | false => exact Goal.val g2 p2.st (.bool false)
    | true =>
      rw [if_pos rfl]
      refine ⟨_, al2, S2, r, (he.post hs p1).post p1.st p2, p2.st, Goal.seq mono_out g2 fun o3 S3 al3 v3 H3 p3 r3 g3 => ?_⟩
      have q2' := q2.post p2.st p3
      have q3 := r3.repB p3.st
      cases q' : cmpV p o2.d o3.d with
      | none =>
        rw [q'] at g3
        exact g3.elim
      | some u =>
        rw [q'] at g3
        exact cop_ok q2' q3 q' (Goal.val g3 p3.st (.bool u))
theorem snd_chain {a b c : Expr} {ca' cb cc : CE} {o p : Cop} (hu : X.A.units + 65 < cLine) (hm : lastMarks [copOf o, copOf p] [b, c] = false) (ha : SE X ca W L a ca') (hb : SE X ca W L b cb) (hc : SE X ca W L c cc) : SE X ca W L (.Compare a [copOf o, copOf p] [b, c] pos) (.chain o p ca' cb cc) :=
  imE (pe_chain (cop_op hu o) (cop_op hu p) ha hb hc hm) chain_imp
theorem st_chain {a b c : Expr} {ca' cb cc : CE} {o p : Cop} (hu : X.A.units + 65 < cLine) (hm : lastMarks [copOf o, copOf p] [b, c] = false) (ha : SE X ca W L a ca') (hb : SE X ca W L b cb) (hc : SE X ca W L c cc) : ST X ca W L (.Compare a [copOf o, copOf p] [b, c] pos) (.chain o p ca' cb cc) :=
  imT (pt_chain (cop_op hu o) (cop_op hu p) ha hb hc hm) fun σ H Q h => chain_imp σ H _ (test_imp rfl σ H Q h)

/-! ### and, or, not -/
theorem evB_and {a b : CE} (r : Rho) : evB L (.and a b) r = (evB L a r >>= fun t => if t = true then evB L b r else pure false) := by
  show ((ev L a r >>= fun x => asBool x.d >>= fun t => if t = true then (ev L b r >>= fun y => asBool y.d >>= fun u => pure (Out.v (.bool u))) else pure (Out.v (.bool false))) >>= fun o => asBool o.d) = _
  unfold evB
  rw [M.bind_assoc, M.bind_assoc]
  congr 1
  funext x
  rw [M.bind_assoc]
  congr 1
  funext t
  cases t with
  | false => rfl
  | true =>
    show ((ev L b r >>= fun y => asBool y.d >>= fun u => pure (Out.v (.bool u))) >>= fun o => asBool o.d) = _
    rw [M.bind_assoc]
    congr 1
    funext y
    rw [M.bind_assoc]
    exact M.bind_pure _
theorem evB_or {a b : CE} (r : Rho) : evB L (.or a b) r = (evB L a r >>= fun t => if t = true then pure true else evB L b r) := by
  show ((ev L a r >>= fun x => asBool x.d >>= fun t => if t = true then pure (Out.v (.bool true)) else (ev L b r >>= fun y => asBool y.d >>= fun u => pure (Out.v (.bool u)))) >>= fun o => asBool o.d) = _
  unfold evB
  rw [M.bind_assoc, M.bind_assoc]
  congr 1
  funext x
  rw [M.bind_assoc]
  congr 1
  funext t
  cases t with
  | true => rfl
  | false =>
    show ((ev L b r >>= fun y => asBool y.d >>= fun u => pure (Out.v (.bool u))) >>= fun o => asBool o.d) = _
    rw [M.bind_assoc]
    congr 1
    funext y
    rw [M.bind_assoc]
    exact M.bind_pure _
theorem evB_not {a : CE} (r : Rho) : evB L (.not a) r = (evB L a r >>= fun t => pure (!t)) := by
  show ((ev L a r >>= fun x => asBool x.d >>= fun t => pure (Out.v (.bool (!t)))) >>= fun o => asBool o.d) = _
  unfold evB
  rw [M.bind_assoc, M.bind_assoc]
  congr 1
  funext x
  rw [M.bind_assoc]
  rfl
/-- the run of a bool is the run of its value -/
theorem ev_andB {a b : CE} (r : Rho) : ev L (.and a b) r = (evB L (.and a b) r >>= fun t => pure (Out.v (.bool t))) := by
  rw [evB_and]
  show (ev L a r >>= fun x => asBool x.d >>= fun t => if t = true then (ev L b r >>= fun y => asBool y.d >>= fun u => pure (Out.v (.bool u))) else pure (Out.v (.bool false))) = _
  unfold evB
  rw [M.bind_assoc, M.bind_assoc]
  congr 1
  funext x
  congr 1
  funext t
  cases t with
  | false => rfl
  | true =>
    show _ = ((ev L b r >>= fun y => asBool y.d) >>= fun u => pure (Out.v (.bool u)))
    rw [M.bind_assoc]
    rfl
theorem ev_orB {a b : CE} (r : Rho) : ev L (.or a b) r = (evB L (.or a b) r >>= fun t => pure (Out.v (.bool t))) := by
  rw [evB_or]
  show (ev L a r >>= fun x => asBool x.d >>= fun t => if t = true then pure (Out.v (.bool true)) else (ev L b r >>= fun y => asBool y.d >>= fun u => pure (Out.v (.bool u)))) = _
  unfold evB
  rw [M.bind_assoc, M.bind_assoc]
  congr 1
  funext x
  congr 1
  funext t
  cases t with
  | true => rfl
  | false =>
    show _ = ((ev L b r >>= fun y => asBool y.d) >>= fun u => pure (Out.v (.bool u)))
    rw [M.bind_assoc]
    rfl
theorem ev_notB {a : CE} (r : Rho) : ev L (.not a) r = (evB L (.not a) r >>= fun t => pure (Out.v (.bool t))) := by
  rw [evB_not]
  show (ev L a r >>= fun x => asBool x.d >>= fun t => pure (Out.v (.bool (!t)))) = _
  unfold evB
  rw [M.bind_assoc, M.bind_assoc]
  congr 1
theorem and_impT {a b : CE} (σ : L2.St) (H : Hp) (Q : Bool → Hp → Prop) (h : tT X.K ca W L.pu (evB L (.and a b)) σ H Q) : tAnd (tT X.K ca W L.pu (evB L a)) (tT X.K ca W L.pu (evB L b)) σ H Q := by
  obtain ⟨Mu, al, S, r, he, hs, hg⟩ := h
  rw [evB_and] at hg
  refine ⟨Mu, al, S, r, he, hs, Goal.seq (Rel1 := RBool) mono_bool hg fun t S1 al1 v1 H1 p1 r1 g1 => ?_⟩
  have ev1 : v1 = t := r1
  subst ev1
  cases v1 with
  | true => exact ⟨_, al1, S1, r, he.post hs p1, p1.st, g1⟩
  | false => exact g1.ok (Post.refl p1.st) rfl
theorem or_impT {a b : CE} (σ : L2.St) (H : Hp) (Q : Bool → Hp → Prop) (h : tT X.K ca W L.pu (evB L (.or a b)) σ H Q) : tOr (tT X.K ca W L.pu (evB L a)) (tT X.K ca W L.pu (evB L b)) σ H Q := by
  obtain ⟨Mu, al, S, r, he, hs, hg⟩ := h
  rw [evB_or] at hg
  refine ⟨Mu, al, S, r, he, hs, Goal.seq (Rel1 := RBool) mono_bool hg fun t S1 al1 v1 H1 p1 r1 g1 => ?_⟩
  have ev1 : v1 = t := r1
  subst ev1
  cases v1 with
  | false => exact ⟨_, al1, S1, r, he.post hs p1, p1.st, g1⟩
  | true => exact g1.ok (Post.refl p1.st) rfl
theorem not_impT {a : CE} (σ : L2.St) (H : Hp) (Q : Bool → Hp → Prop) (h : tT X.K ca W L.pu (evB L (.not a)) σ H Q) : tNot (tT X.K ca W L.pu (evB L a)) σ H Q := by
  obtain ⟨Mu, al, S, r, he, hs, hg⟩ := h
  rw [evB_not] at hg
  refine ⟨Mu, al, S, r, he, hs, Goal.seq (Rel1 := RBool) mono_bool hg fun t S1 al1 v1 H1 p1 r1 g1 => ?_⟩
  have ev1 : v1 = t := r1
  subst ev1
  exact g1.ok (Post.refl p1.st) rfl
abbrev SW (X : Cx) (ca : Ca) (W : WX) (L : Lk) (e : Expr) (c : CE) : Prop := PW X e (tT X.K ca W L.pu (evB L c))
theorem imW {e : Expr} {t t' : TT} (h : PW X e t) (q : ∀ σ H Q, t' σ H Q → t σ H Q) : PW X e t' := ⟨fun wh pins s σ H Q I hw => h.run wh pins s σ H Q I (q _ _ _ hw)⟩
theorem sw_and1 {a : Expr} {c : CE} (ha : ST X ca W L a c) : SW X ca W L (.BoolOp .And [a] pos) c := pw_and1 ha
theorem sw_or1 {a : Expr} {c : CE} (ha : ST X ca W L a c) : SW X ca W L (.BoolOp .Or [a] pos) c := pw_or1 ha
theorem sw_and {a b : Expr} {rest : List Expr} {c d : CE} (ha : ST X ca W L a c) (hb : SW X ca W L (.BoolOp .And (b :: rest) pos) d) : SW X ca W L (.BoolOp .And (a :: b :: rest) pos) (.and c d) := imW (pw_and ha hb) and_impT
theorem sw_or {a b : Expr} {rest : List Expr} {c d : CE} (ha : ST X ca W L a c) (hb : SW X ca W L (.BoolOp .Or (b :: rest) pos) d) : SW X ca W L (.BoolOp .Or (a :: b :: rest) pos) (.or c d) := imW (pw_or ha hb) or_impT
theorem st_not {a : Expr} {c : CE} (ha : ST X ca W L a c) : ST X ca W L (.UnaryOp .Not a pos) (.not c) := imT (pt_not ha) not_impT
/-- a bool's run as a value: what is wanted of the bool -/
theorem val_of_bool {c : CE} (hc : ∀ r, ev L c r = (evB L c r >>= fun t => pure (Out.v (.bool t)))) (σ : L2.St) (H : Hp) (Q : VK) (h : tD X.K ca W L.pu false (ev L c) σ H Q) : tT X.K ca W L.pu (evB L c) σ H fun b H' => Q (.bl b) H' := by
  obtain ⟨Mu, al, S, r, he, hs, hg⟩ := h
  rw [hc] at hg
  refine ⟨Mu, al, S, r, he, hs, Goal.seq (Rel1 := RBool) mono_out hg fun t S1 al1 v1 H1 p1 r1 g1 => ?_⟩
  have ev1 : v1 = t := r1
  subst ev1
  exact Goal.val g1 p1.st (.bool _)
theorem bool_imp {c : CE} (hb : c.isBor = false) (σ : L2.St) (H : Hp) (Q : Bool → Hp → Prop) (h : tT X.K ca W L.pu (evB L c) σ H Q) : tD X.K ca W L.pu c.isBor (ev L c) σ H fun x H' => ∃ k, x = .bl k ∧ Q k H' := test_imp hb σ H Q h
theorem Goal.imp {α β : Type} {K : PySem.W.Frag} {Ex : XK} {Mu : Addr → Prop} {al : List Addr} {S : List SO} {H : Hp} {Rel : RelT α β} {res : R α} {Q Q' : β → Hp → Prop} (h : Goal K ca pu Ex Mu al S H Rel res Q) (q : ∀ v H', Q v H' → Q' v H') : Goal K ca pu Ex Mu al S H Rel res Q' := by
  cases res with
  | ok o S' => exact fun v H' al' p r => q _ _ (h v H' al' p r)
  | exc x S' => exact h
  | bad => exact h
theorem tD_mono {b : Bool} {run : Rho → M Out} {σ : L2.St} {H : Hp} {Q Q' : VK} (h : tD X.K ca W pu b run σ H Q) (q : ∀ v H', Q v H' → Q' v H') : tD X.K ca W pu b run σ H Q' := by
  obtain ⟨Mu, al, S, r, he, hs, hg⟩ := h
  exact ⟨Mu, al, S, r, he, hs, Goal.imp hg q⟩
theorem val_imp {c : CE} (hb : c.isBor = false) (σ : L2.St) (H : Hp) (Q : VK) (h : tT X.K ca W L.pu (evB L c) σ H fun b H' => Q (.bl b) H') : tD X.K ca W L.pu c.isBor (ev L c) σ H Q :=
  tD_mono (test_imp hb σ H _ h) fun v H' ⟨k, e, q⟩ => by
    rw [e]
    exact q
/-- values: a and b, where both are bools -/
theorem snd_and {a b : Expr} {rest : List Expr} {c d : CE} (hc : c.isBor = false) (hd : d.isBor = false) (ha : SE X ca W L a c) (hb : SE X ca W L (.BoolOp .And (b :: rest) pos) d) : SE X ca W L (.BoolOp .And (a :: b :: rest) pos) (.and c d) := by
  refine imE (pe_and ha hb) fun σ H Q h => ?_
  have h := and_impT σ H _ (val_of_bool ev_andB σ H Q h)
  refine tD_mono (test_imp hc σ H _ h) fun v H' ⟨k, e, q⟩ => ⟨k, e, ?_⟩
  cases k with
  | true =>
    rw [if_pos rfl] at q ⊢
    exact val_imp hd σ H' Q q
  | false =>
    rw [if_neg Bool.false_ne_true] at q ⊢
    exact q
theorem snd_or {a b : Expr} {rest : List Expr} {c d : CE} (hc : c.isBor = false) (hd : d.isBor = false) (ha : SE X ca W L a c) (hb : SE X ca W L (.BoolOp .Or (b :: rest) pos) d) : SE X ca W L (.BoolOp .Or (a :: b :: rest) pos) (.or c d) := by
  refine imE (pe_or ha hb) fun σ H Q h => ?_
  have h := or_impT σ H _ (val_of_bool ev_orB σ H Q h)
  refine tD_mono (test_imp hc σ H _ h) fun v H' ⟨k, e, q⟩ => ⟨k, e, ?_⟩
  cases k with
  | false =>
    rw [if_neg Bool.false_ne_true] at q ⊢
    exact val_imp hd σ H' Q q
  | true =>
    rw [if_pos rfl] at q ⊢
    exact q
theorem snd_one {op : BoolOp} {a : Expr} {c : CE} (ha : SE X ca W L a c) : SE X ca W L (.BoolOp op [a] pos) c := pe_one ha
theorem snd_not {a : Expr} {c : CE} (hc : c.isBor = false) (ha : SE X ca W L a c) : SE X ca W L (.UnaryOp .Not a pos) (.not c) := by
  refine imE (pe_not ha) fun σ H Q h => ?_
  have h := not_impT σ H _ (val_of_bool ev_notB σ H Q h)
  exact test_imp hc σ H _ h
/-! ### a if t else b -/
theorem snd_ite {t a b : Expr} {ct c d : CE} (hc : c.isBor = false) (hd : d.isBor = false) (ht : ST X ca W L t ct) (ha : SE X ca W L a c) (hb : SE X ca W L b d) : SE X ca W L (.IfExp t a b pos) (.ite ct c d) := by
  refine imE (pe_ifExp ht ha hb) fun σ H Q h => ?_
  obtain ⟨Mu, al, S, r, he, hs, hg⟩ := h
  have e : ev L (.ite ct c d) r = (evB L ct r >>= fun t => if t = true then (ev L c r >>= fun y => pure (Out.v y.d)) else (ev L d r >>= fun y => pure (Out.v y.d))) := by
    show (ev L ct r >>= fun x => asBool x.d >>= fun t => if t = true then (ev L c r >>= fun y => pure (Out.v y.d)) else (ev L d r >>= fun y => pure (Out.v y.d))) = _
    unfold evB
    rw [M.bind_assoc]
  rw [e] at hg
  refine ⟨Mu, al, S, r, he, hs, Goal.seq (Rel1 := RBool) mono_out hg fun t S1 al1 v1 H1 p1 r1 g1 => ?_⟩
  have ev1 : v1 = t := r1
  subst ev1
  cases v1 with
  | true =>
    rw [if_pos rfl] at g1
    rw [if_pos rfl]
    refine ⟨_, al1, S1, r, he.post hs p1, p1.st, Goal.seq mono_out g1 fun o2 S2 al2 v2 H2 p2 r2 g2 => ?_⟩
    rw [hc] at r2
    exact Goal.val g2 p2.st (r2.rep p2.st)
  | false =>
    rw [if_neg Bool.false_ne_true] at g1
    rw [if_neg Bool.false_ne_true]
    refine ⟨_, al1, S1, r, he.post hs p1, p1.st, Goal.seq mono_out g1 fun o2 S2 al2 v2 H2 p2 r2 g2 => ?_⟩
    rw [hd] at r2
    exact Goal.val g2 p2.st (r2.rep p2.st)
end
end Pb
end

section
set_option Elab.async false
set_option linter.all false
set_option maxRecDepth 100000
set_option maxHeartbeats 1000000
/-! Arguments, displays, places, slices, built-ins. -/
namespace Pb
open PySem PySem.Spec PyProof.Rows L2
inductive RepBs (K : PySem.W.Frag) (Mu : Addr → Prop) (al : List Addr) (H : Hp) : List V → List D → Prop
  | nil : RepBs K Mu al H [] []
  | cons {v : V} {vs : List V} {d : D} {ds : List D} : RepB K Mu al H v d → RepBs K Mu al H vs ds → RepBs K Mu al H (v :: vs) (d :: ds)
section
variable {X : Cx} {ca : Ca} {W : WX} {pu : Bool} {L : Lk} {pos : Pos}
theorem RepBs.one {K : PySem.W.Frag} {Mu : Addr → Prop} {al : List Addr} {H : Hp} {vs : List V} {d : D} (h : RepBs K Mu al H vs [d]) : ∃ v, vs = [v] ∧ RepB K Mu al H v d := by
  cases h with
  | cons h t =>
    cases t
    exact ⟨_, rfl, h⟩
theorem RepBs.two {K : PySem.W.Frag} {Mu : Addr → Prop} {al : List Addr} {H : Hp} {vs : List V} {d e : D} (h : RepBs K Mu al H vs [d, e]) : ∃ v u, vs = [v, u] ∧ RepB K Mu al H v d ∧ RepB K Mu al H u e := by
  cases h with
  | cons h t =>
    obtain ⟨u, rfl, q⟩ := t.one
    exact ⟨_, _, rfl, h, q⟩
abbrev RArgs (K : PySem.W.Frag) (nb : Bool) : RelT (List D) (List V) := fun _ Mu al H vs ds => RepBs K Mu al H vs ds ∧ (nb = true → Reps K Mu al H vs ds)
theorem mono_args {K : PySem.W.Frag} {nb : Bool} : Mono (RArgs K nb) := fun _ _ _ _ _ _ _ _ h => h
def tAs (K : PySem.W.Frag) (ca : Ca) (W : WX) (L : Lk) (as : CA) : TA := fun σ H Q =>
  ∃ Mu al S r, EnvR K Mu al r σ H ∧ StR K ca Mu al S H ∧ Goal K ca L.pu (fun cls dx H' => W cls dx σ H') Mu al S H (RArgs K as.nb) (evA L as r S) Q
abbrev SA (X : Cx) (ca : Ca) (W : WX) (L : Lk) (es : List Expr) (as : CA) : Prop := PA X es (tAs X.K ca W L as)
theorem sa_nil : SA X ca W L [] .nil := imA pa_nil fun σ H Q h => by
  obtain ⟨Mu, al, S, r, he, hs, hg⟩ := h
  exact Goal.ok (show Goal X.K ca L.pu _ Mu al S H (RArgs X.K true) (.ok [] S) Q from hg) (Post.refl hs) ⟨.nil, fun _ => .nil⟩
theorem sa_cons {e : Expr} {es : List Expr} {c : CE} {as : CA} (h : SE X ca W L e c) (t : SA X ca W L es as) (hst : starEach (e :: es) X.env = (false, eval e X.env) :: starEach es X.env) : SA X ca W L (e :: es) (.cons c as) := by
  refine imA (pa_cons h t hst) fun σ H Q h => ?_
  obtain ⟨Mu, al, S, r, he, hs, hg⟩ := h
  have hg : Goal X.K ca L.pu _ Mu al S H (RArgs X.K (!c.isBor && as.nb)) ((ev L c r >>= fun x => evA L as r >>= fun xs => pure (x.d :: xs)) S) Q := hg
  refine ⟨Mu, al, S, r, he, hs, Goal.seq mono_args hg fun o1 S1 al1 v1 H1 p1 r1 g1 => ?_⟩
  refine ⟨MuA Mu al1, al1, S1, r, he.post hs p1, p1.st, Goal.seq mono_args g1 fun ds S2 al2 vs H2 p2 r2 g2 => ?_⟩
  refine Goal.ok (show Goal X.K ca L.pu _ _ al2 S2 H2 _ (.ok (o1.d :: ds) S2) Q from g2) (Post.refl p2.st) ?_
  have q1 := (r1.repB p1.st).post p1.st p2
  rw [muA_eq p2.st.mu]
  refine ⟨.cons q1 r2.1, fun hb => ?_⟩
  rw [Bool.and_eq_true, Bool.not_eq_true'] at hb
  rw [hb.1] at r1
  exact .cons ((r1.rep p1.st).go (p2.goes p1.st)) (r2.2 hb.2)

/-! ### displays -/
theorem snd_tup {es : List Expr} {as : CA} {k : Nat} (h : SA X ca W L es as) : SE X ca W L (.Tuple es k pos) (.tup as) := by
  refine imE (pe_tup h) fun σ H Q h => ?_
  obtain ⟨Mu, al, S, r, he, hs, hg⟩ := h
  have hg : Goal X.K ca L.pu _ Mu al S H (ROut X.K false) ((if as.nb = true then (evA L as r >>= fun ds => if ds.length ≤ sizeLine then pure (Out.v (.tuple ds)) else M.bad) else M.bad : M Out) S) Q := hg
  cases hn : as.nb with
  | false =>
    rw [hn] at hg
    exact hg.elim
  | true =>
    rw [hn, if_pos rfl] at hg
    refine ⟨Mu, al, S, r, he, hs, Goal.seq mono_out hg fun ds S1 al1 vs H1 p1 r1 g1 => ?_⟩
    have r1 := r1.2 hn
    by_cases hz : ds.length ≤ sizeLine
    · rw [if_pos hz] at g1
      exact ⟨by rw [r1.length]; exact hz, fun p hp => Goal.newTup g1 p1.st r1 hp⟩
    · rw [if_neg hz] at g1
      exact g1.elim
theorem snd_lst {es : List Expr} {as : CA} (h : SA X ca W L es as) : SE X ca W L (.List es pos) (.lst as) := by
  refine imE (pe_lst h) fun σ H Q h => ?_
  obtain ⟨Mu, al, S, r, he, hs, hg⟩ := h
  have hg : Goal X.K ca L.pu _ Mu al S H (ROut X.K false) ((if as.nb = true then (evA L as r >>= fun ds => if ds.length ≤ sizeLine then pure (Out.own ds) else M.bad) else M.bad : M Out) S) Q := hg
  cases hn : as.nb with
  | false =>
    rw [hn] at hg
    exact hg.elim
  | true =>
    rw [hn, if_pos rfl] at hg
    refine ⟨Mu, al, S, r, he, hs, Goal.seq mono_out hg fun ds S1 al1 vs H1 p1 r1 g1 => ?_⟩
    have r1 := r1.2 hn
    by_cases hz : ds.length ≤ sizeLine
    · rw [if_pos hz] at g1
      exact ⟨by rw [r1.length]; exact hz, fun p hp => Goal.newLst g1 p1.st r1 hp⟩
    · rw [if_neg hz] at g1
      exact g1.elim

/-! ### a[i] -/
theorem atI_rep {K : PySem.W.Frag} {Mu : Addr → Prop} {al : List Addr} {H : Hp} {vs : List V} {ds : List D} {i : Int} {d : D} (r : Reps K Mu al H vs ds) (h : atI ds i = some d) : ∃ v, atI vs i = some v ∧ Rep K Mu al H v d := by
  unfold atI at h ⊢
  rw [r.length]
  cases q : ixN ds.length i with
  | none =>
    rw [q] at h
    cases h
  | some j =>
    rw [q] at h
    exact r.get h
theorem atI_map {α β : Type} {xs : List α} {i : Int} {f : α → β} {y : β} (h : (atI xs i).map f = some y) : atI (xs.map f) i = some y := by
  unfold atI at h ⊢
  rw [List.length_map]
  cases q : ixN xs.length i with
  | none =>
    rw [q] at h
    cases h
  | some j =>
    rw [q] at h
    show (xs.map f)[j]? = some y
    rw [List.getElem?_map]
    exact h
theorem snd_idx {a b : Expr} {c d : CE} (hb : PlainIx b) (ha : SE X ca W L a c) (hi : SE X ca W L b d) : SE X ca W L (.Subscript a b pos) (.idx c d) := by
  refine imE (pe_ix (IxR.or ix_list ix_tup) ha hi hb) fun σ H Q h => ?_
  refine two (L := L) (bb := false) (k := fun x y => fun S => match idxV S x.d y.d with
      | some d => .ok (.v d) S
      | none => .bad) σ H Q h fun Mu al S x y o1 o2 H2 hs r1 r2 g => ?_
  have g : Goal X.K ca L.pu _ Mu al S H2 (ROut X.K false) (match idxV S o1.d o2.d with
      | some d => .ok (.v d) S
      | none => .bad) Q := g
  generalize o1.d = e1 at g r1
  generalize o2.d = e2 at g r2
  cases q : idxV S e1 e2 with
  | none =>
    rw [q] at g
    exact g.elim
  | some d =>
    rw [q] at g
    unfold idxV at q
    split at q
    · obtain ⟨p, xs, rfl, h1, h3⟩ := r1.list
      cases r2.int
      obtain ⟨v, h4, h5⟩ := atI_rep h3 q
      exact .inl ⟨p, xs, _, v, rfl, rfl, SqL.of h1, h4, Goal.val g hs h5⟩
    · obtain ⟨p, xs, rfl, h1, _, h3⟩ := r1.tuple
      cases r2.int
      obtain ⟨v, h4, h5⟩ := atI_rep h3 q
      exact .inr ⟨p, xs, _, v, rfl, rfl, SqT.of h1, h4, Goal.val g hs h5⟩
    · cases r2.int
      rename_i ns i
      cases qq : atI ns i with
      | none =>
        rw [qq] at q
        cases q
      | some z =>
        rw [qq] at q
        cases q
        have e : atI (ns.map V.int) i = some (V.int z) := atI_map (by rw [qq]; rfl)
        have r1 := r1.rep (fun _ z => by cases z)
        cases r1 with
        | scr h1 h2 => exact .inl ⟨_, _, _, _, rfl, rfl, .inl h1, e, Goal.val g hs (.int z)⟩
        | scrK h1 =>
          refine .inl ⟨_, _, _, _, rfl, rfl, ?_, e, Goal.val g hs (.int z)⟩
          rcases h1 with (h | ⟨o, h⟩) | h
          · cases h
          · cases h
          · exact .inr h
    · cases r2.int
      rename_i n i
      split at q
      · rename_i xs hn
        have r1 := r1.rep (fun _ z => by cases z)
        cases r1 with
        | loc ha =>
          obtain ⟨vs, h1, h2⟩ := hs.ob _ _ _ hn ha
          obtain ⟨v, h4, h5⟩ := atI_rep h2 q
          exact .inl ⟨_, vs, _, v, rfl, rfl, SqL.of h1, h4, Goal.val g hs h5⟩
      · cases q
    · cases q

/-! ### slices -/
abbrev ROptI : RelT (Option Int) (Option Int) := fun _ _ _ _ b o => b = o
theorem mono_opt : Mono ROptI := fun _ _ _ _ _ _ _ _ h => h
def tOp' (K : PySem.W.Frag) (ca : Ca) (W : WX) (L : Lk) (o : Option CE) : TO := fun σ H Q =>
  ∃ Mu al S r, EnvR K Mu al r σ H ∧ StR K ca Mu al S H ∧ Goal K ca L.pu (fun cls dx H' => W cls dx σ H') Mu al S H ROptI (evO L o r S) Q
inductive SO' (X : Cx) (ca : Ca) (W : WX) (L : Lk) : Option Expr → Option CE → Prop
  | none : SO' X ca W L none none
  | some {e : Expr} {c : CE} : SE X ca W L e c → SO' X ca W L (some e) (some c)
theorem imO {e : Option Expr} {t t' : TO} (h : PO X e t) (q : ∀ σ H Q, t' σ H Q → t σ H Q) : PO X e t' := ⟨fun pins s σ H Q I hw => h.run pins s σ H Q I (q _ _ _ hw)⟩
theorem SO'.po {o : Option Expr} {c : Option CE} (h : SO' X ca W L o c) : PO X o (tOp' X.K ca W L c) := by
  cases h with
  | none =>
    refine imO po_none fun σ H Q h => ?_
    obtain ⟨Mu, al, S, r, he, hs, hg⟩ := h
    exact Goal.ok (show Goal X.K ca L.pu _ Mu al S H ROptI (.ok Option.none S) Q from hg) (Post.refl hs) rfl
  | some h =>
    rename_i e c
    refine imO (po_some h) fun σ H Q h => ?_
    obtain ⟨Mu, al, S, r, he, hs, hg⟩ := h
    have hg : Goal X.K ca L.pu _ Mu al S H ROptI ((ev L c r >>= fun x => asOptI x.d) S) Q := hg
    refine ⟨Mu, al, S, r, he, hs, Goal.seq mono_opt hg fun o1 S1 al1 v1 H1 p1 r1 g1 => ?_⟩
    have r1 := r1.repB p1.st
    generalize o1.d = e1 at g1 r1
    cases e1 with
    | int i =>
      cases r1.int
      exact ⟨i, rfl, Goal.ok (show Goal X.K ca L.pu _ _ al1 S1 H1 ROptI (.ok (Option.some i) S1) Q from g1) (Post.refl p1.st) rfl⟩
    | _ => exact g1.elim
theorem cut_rep {K : PySem.W.Frag} {Mu : Addr → Prop} {al : List Addr} {H : Hp} {vs : List V} {ds : List D} (lo hi : Option Int) (r : Reps K Mu al H vs ds) : Reps K Mu al H (cutV vs lo hi) (cutD ds lo hi) := by
  unfold cutV cutD
  rw [r.length]
  exact (r.drop _).take _
theorem snd_slc {a : Expr} {lo hi : Option Expr} {c : CE} {cl ch : Option CE} {p2 : Pos} (ha : SE X ca W L a c) (hl : SO' X ca W L lo cl) (hh : SO' X ca W L hi ch) : SE X ca W L (.Subscript a (.Slice lo hi none p2) pos) (.slc c cl ch) := by
  refine imE (pe_slice (SlR.or sl_list sl_tupA) ha hl.po hh.po) fun σ H Q h => ?_
  obtain ⟨Mu, al, S, r, he, hs, hg⟩ := h
  have hg : Goal X.K ca L.pu _ Mu al S H (ROut X.K false) ((ev L c r >>= fun x => evO L cl r >>= fun l => evO L ch r >>= fun h => ofOpt (slcV x.d l h)) S) Q := hg
  refine ⟨Mu, al, S, r, he, hs, Goal.seq mono_out hg fun o1 S1 al1 v1 H1 p1 r1 g1 => ?_⟩
  refine ⟨_, al1, S1, r, he.post hs p1, p1.st, Goal.seq (Rel1 := ROptI) mono_out g1 fun l S2 al2 l' H2 p2 r2 g2 => ?_⟩
  refine ⟨_, al2, S2, r, (he.post hs p1).post p1.st p2, p2.st, Goal.seq (Rel1 := ROptI) mono_out g2 fun h S3 al3 h' H3 p3 r3 g3 => ?_⟩
  have el : l' = l := r2
  have eh : h' = h := r3
  subst el
  subst eh
  have q1 := ((r1.repB p1.st).post p1.st p2).post p2.st p3
  generalize o1.d = e1 at g3 q1
  unfold slcV at g3
  split at g3
  · obtain ⟨p, xs, rfl, h1, h3⟩ := q1.list
    exact .inl ⟨p, xs, rfl, SqL.of h1, fun q hq => Goal.newLst g3 p3.st (cut_rep l' h' h3) hq⟩
  · rename_i zs
    obtain ⟨p, xs, rfl, h1, h2, h3⟩ := q1.tuple
    refine .inr ⟨p, xs, rfl, SqT.of h1, fun hw => ?_, fun hw q hq => Goal.newTup g3 p3.st (cut_rep l' h' h3) hq⟩
    refine Goal.val g3 p3.st ?_
    have e : cutD zs l' h' = zs := by
      unfold cutD
      rw [← h3.length, hw.1, hw.2, List.drop_zero, Nat.sub_zero, h3.length]
      exact List.take_length
    rw [e]
    exact .tuple h1 h2 h3
  · exact g3.elim
end
end Pb
end

section
set_option Elab.async false
set_option linter.all false
set_option maxRecDepth 100000
set_option maxHeartbeats 1000000
/-! Built-ins, calls of defs. -/
namespace Pb
open PySem PySem.Spec PyProof.Rows L2
def plainE : Expr → Bool
  | .Starred _ _ => false
  | _ => true
theorem star1 {e : Expr} {es : List Expr} {env : Env} (h : plainE e = true) : starEach (e :: es) env = (false, eval e env) :: starEach es env := by
  cases e <;> first | rfl | cases h
theorem starN {pos : Pos} : ∀ {es : List Expr} {env : Env}, es.all plainE = true → (backTo pos (starEach es env)).any (·.1) = false
  | [], _, _ => rfl
  | e :: es, env, h => by
    rw [List.all_cons, Bool.and_eq_true] at h
    rw [star1 h.1]
    show (false || (backTo pos (starEach es env)).any (·.1)) = false
    rw [starN h.2]
    rfl
section
variable {X : Cx} {ca : Ca} {W : WX} {pu : Bool} {L : Lk} {pos : Pos}
/-- the arguments' run, then a built-in -/
theorem prim_imp {as : CA} {p : Prim} {r : List V → Hp → VK → Prop}
    (ok : ∀ (Mu : Addr → Prop) (al : List Addr) (S : List SO) (H : Hp) (Q : VK) (Ex : XK) (vs : List V) (ds : List D) (o : Out), StR X.K ca Mu al S H → RepBs X.K Mu al H vs ds → primV p ds = some o → Goal X.K ca L.pu Ex Mu al S H (ROut X.K false) (.ok o S) Q → r vs H Q)
    (σ : L2.St) (H : Hp) (Q : VK) (h : tD X.K ca W L.pu false (ev L (.prim p as)) σ H Q) : tCB r (tAs X.K ca W L as) σ H Q := by
  obtain ⟨Mu, al, S, r', he, hs, hg⟩ := h
  have hg : Goal X.K ca L.pu _ Mu al S H (ROut X.K false) ((evA L as r' >>= fun ds => ofOpt (primV p ds)) S) Q := hg
  refine ⟨Mu, al, S, r', he, hs, Goal.seq mono_out hg fun ds S1 al1 vs H1 p1 r1 g1 => ?_⟩
  cases q : primV p ds with
  | none =>
    rw [q] at g1
    exact g1.elim
  | some o =>
    rw [q] at g1
    exact ok _ al1 S1 H1 Q _ vs ds o p1.st r1.1 q g1
theorem snd_primB {nm : Str} {id : String} {e : Expr} {es : List Expr} {as : CA} {p : Prim} {np : Pos} {r : List V → Hp → VK → Prop} (hc : CallR X (.builtin id) r) (hv : bootBuiltins nm = some (.builtin id)) (hg : Gl X nm) (hm : X.mg nm = none) (hn : nm ≠ "__name__") (hdb : (nm == ("__debug__" : Str)) = false)
    (hp : (e :: es).all plainE = true) (ha : SA X ca W L (e :: es) as)
    (ok : ∀ (Mu : Addr → Prop) (al : List Addr) (S : List SO) (H : Hp) (Q : VK) (Ex : XK) (vs : List V) (ds : List D) (o : Out), StR X.K ca Mu al S H → RepBs X.K Mu al H vs ds → primV p ds = some o → Goal X.K ca L.pu Ex Mu al S H (ROut X.K false) (.ok o S) Q → r vs H Q) :
    SE X ca W L (.Call (.Name nm np) (e :: es) [] pos) (.prim p as) := by
  rw [List.all_cons, Bool.and_eq_true] at hp
  exact imE (pe_callB hc hg hm hv ha hn hdb (star1 hp.1) (starN hp.2)) (prim_imp ok)
theorem snd_primT {nm : Str} {T : String} {e : Expr} {es : List Expr} {as : CA} {p : Prim} {np : Pos} {r : List V → Hp → VK → Prop} (hc : CallR X (.type T) r) (hv : bootBuiltins nm = some (.type T)) (hg : Gl X nm) (hm : X.mg nm = none) (hn : nm ≠ "__name__") (hdb : (nm == ("__debug__" : Str)) = false)
    (hp : (e :: es).all plainE = true) (ha : SA X ca W L (e :: es) as)
    (ok : ∀ (Mu : Addr → Prop) (al : List Addr) (S : List SO) (H : Hp) (Q : VK) (Ex : XK) (vs : List V) (ds : List D) (o : Out), StR X.K ca Mu al S H → RepBs X.K Mu al H vs ds → primV p ds = some o → Goal X.K ca L.pu Ex Mu al S H (ROut X.K false) (.ok o S) Q → r vs H Q) :
    SE X ca W L (.Call (.Name nm np) (e :: es) [] pos) (.prim p as) := by
  rw [List.all_cons, Bool.and_eq_true] at hp
  exact imE (pe_callTy hc hg hm hv ha hn hdb (star1 hp.1) (starN hp.2)) (prim_imp ok)
theorem bools_rep {K : PySem.W.Frag} {Mu : Addr → Prop} {al : List Addr} {H : Hp} : ∀ {vs : List V} {ds : List D} {bs : List Bool}, Reps K Mu al H vs ds → D.bools ds = some bs → vs = bs.map V.bl
  | _, [], bs, .nil, h => by
    cases h
    rfl
  | _, d :: ds, bs, .cons r t, h => by
    cases d with
    | bool b =>
      simp only [D.bools] at h
      cases q : D.bools ds with
      | none =>
        rw [q] at h
        cases h
      | some cs =>
        rw [q] at h
        cases h
        cases r
        rw [bools_rep t q]
        rfl
    | _ => simp [D.bools] at h
theorem ints_rep {K : PySem.W.Frag} {Mu : Addr → Prop} {al : List Addr} {H : Hp} : ∀ {vs : List V} {ds : List D} {bs : List Int}, Reps K Mu al H vs ds → D.ints ds = some bs → vs = bs.map V.int
  | _, [], bs, .nil, h => by
    cases h
    rfl
  | _, d :: ds, bs, .cons r t, h => by
    cases d with
    | int b =>
      simp only [D.ints] at h
      cases q : D.ints ds with
      | none =>
        rw [q] at h
        cases h
      | some cs =>
        rw [q] at h
        cases h
        cases r
        rw [ints_rep t q]
        rfl
    | _ => simp [D.ints] at h
theorem one_of {α : Type} {f : D → Option α} {g : List D → Option α} (h1 : ∀ d, g [d] = f d) (h0 : g [] = none) (h2 : ∀ a b c, g (a :: b :: c) = none) {ds : List D} {o : α} (h : g ds = some o) : ∃ d, ds = [d] ∧ f d = some o := by
  match ds with
  | [] => rw [h0] at h; cases h
  | [d] => exact ⟨d, rfl, by rw [← h1]; exact h⟩
  | a :: b :: c => rw [h2] at h; cases h
section
variable {Ex : XK} {K : PySem.W.Frag} {Mu : Addr → Prop} {al : List Addr} {S : List SO} {H : Hp} {Q : VK} {vs : List V} {ds : List D} {o : Out}
theorem scr_sq {v : V} {ns : List Int} (r : RepB K Mu al H v (.scr ns)) : ∃ a, v = .ref a ∧ SqL K H a (ns.map V.int) := by
  cases r.rep (fun _ z => by cases z) with
  | scr h1 h2 => exact ⟨_, rfl, .inl h1⟩
  | scrK h1 =>
    refine ⟨_, rfl, ?_⟩
    rcases h1 with (h | ⟨o, h⟩) | h
    · cases h
    · cases h
    · exact .inr h
theorem ok_len (hs : StR K ca Mu al S H) (r : RepBs K Mu al H vs ds) (h : lenV ds = some o) (g : Goal K ca pu Ex Mu al S H (ROut K false) (.ok o S) Q) :
    (∃ p ys, vs = [.ref p] ∧ (SqL K H p ys ∨ SqT K H p ys) ∧ Q (.int ys.length) H) ∨ (∃ z, vs = [.str z] ∧ z.length ≤ sizeLine ∧ Q (.int z.length) H) := by
  unfold lenV at h
  split at h
  · cases h
    obtain ⟨v, rfl, r1⟩ := r.one
    obtain ⟨a, xs, rfl, h1, h3⟩ := r1.list
    refine .inl ⟨a, xs, rfl, .inl (SqL.of h1), ?_⟩
    rw [h3.length]
    exact Goal.val g hs (.int _)
  · cases h
    obtain ⟨v, rfl, r1⟩ := r.one
    obtain ⟨a, xs, rfl, h1, _, h3⟩ := r1.tuple
    refine .inl ⟨a, xs, rfl, .inr (SqT.of h1), ?_⟩
    rw [h3.length]
    exact Goal.val g hs (.int _)
  · split at h
    · rename_i hz
      cases h
      obtain ⟨v, rfl, r1⟩ := r.one
      cases r1.str
      exact .inr ⟨_, rfl, hz, Goal.val g hs (.int _)⟩
    · cases h
  · cases h
    obtain ⟨v, rfl, r1⟩ := r.one
    obtain ⟨a, rfl, h1⟩ := scr_sq r1
    refine .inl ⟨a, _, rfl, .inl h1, ?_⟩
    rw [List.length_map]
    exact Goal.val g hs (.int _)
  · cases h
theorem ok_all (hs : StR K ca Mu al S H) (r : RepBs K Mu al H vs ds) (h : allV ds = some o) (g : Goal K ca pu Ex Mu al S H (ROut K false) (.ok o S) Q) : rAll K vs H Q := by
  unfold allV at h
  split at h
  · rename_i xs
    obtain ⟨v, rfl, r1⟩ := r.one
    obtain ⟨a, ys, rfl, h1, h3⟩ := r1.list
    cases q : D.bools xs with
    | none => rw [q] at h; cases h
    | some bs =>
      rw [q] at h
      cases h
      refine ⟨a, bs, rfl, SqL.of ?_, Goal.val g hs (.bool _)⟩
      rw [h1, bools_rep h3 q]
  · cases h
theorem ok_any (hs : StR K ca Mu al S H) (r : RepBs K Mu al H vs ds) (h : anyV ds = some o) (g : Goal K ca pu Ex Mu al S H (ROut K false) (.ok o S) Q) : rAny K vs H Q := by
  unfold anyV at h
  split at h
  · rename_i xs
    obtain ⟨v, rfl, r1⟩ := r.one
    obtain ⟨a, ys, rfl, h1, h3⟩ := r1.list
    cases q : D.bools xs with
    | none => rw [q] at h; cases h
    | some bs =>
      rw [q] at h
      cases h
      refine ⟨a, bs, rfl, SqL.of ?_, Goal.val g hs (.bool _)⟩
      rw [h1, bools_rep h3 q]
  · cases h
theorem ok_sum (hs : StR K ca Mu al S H) (r : RepBs K Mu al H vs ds) (h : sumV ds = some o) (g : Goal K ca pu Ex Mu al S H (ROut K false) (.ok o S) Q) : rSum K vs H Q := by
  unfold sumV at h
  split at h
  · rename_i xs
    obtain ⟨v, rfl, r1⟩ := r.one
    obtain ⟨a, ys, rfl, h1, h3⟩ := r1.list
    cases q : D.ints xs with
    | none => rw [q] at h; cases h
    | some bs =>
      rw [q] at h
      cases h
      refine ⟨a, bs, rfl, SqL.of ?_, Goal.val g hs (.int _)⟩
      rw [h1, ints_rep h3 q]
  · cases h
theorem ok_tup (hs : StR K ca Mu al S H) (r : RepBs K Mu al H vs ds) (h : tupV ds = some o) (g : Goal K ca pu Ex Mu al S H (ROut K false) (.ok o S) Q) :
    ∃ p ys, vs = [.ref p] ∧ ((SqL K H p ys ∧ ∀ l, H l = none → Q (.ref l) (upd H l (.tup ys))) ∨ (SqT K H p ys ∧ Q (.ref p) H)) := by
  unfold tupV at h
  split at h
  · cases h
    obtain ⟨v, rfl, r1⟩ := r.one
    obtain ⟨a, xs, rfl, h1, h3⟩ := r1.list
    exact ⟨a, xs, rfl, .inl ⟨SqL.of h1, fun l hl => Goal.newTup g hs h3 hl⟩⟩
  · cases h
    obtain ⟨v, rfl, r1⟩ := r.one
    obtain ⟨a, xs, rfl, h1, h2, h3⟩ := r1.tuple
    exact ⟨a, xs, rfl, .inr ⟨SqT.of h1, Goal.val g hs (.tuple h1 h2 h3)⟩⟩
  · cases h
theorem ok_lst (hs : StR K ca Mu al S H) (r : RepBs K Mu al H vs ds) (h : lstV ds = some o) (g : Goal K ca pu Ex Mu al S H (ROut K false) (.ok o S) Q) :
    ∃ p ys, vs = [.ref p] ∧ (SqL K H p ys ∨ SqT K H p ys) ∧ ∀ l, H l = none → Q (.ref l) (upd H l (.lst ys)) := by
  unfold lstV at h
  split at h
  · cases h
    obtain ⟨v, rfl, r1⟩ := r.one
    obtain ⟨a, xs, rfl, h1, h3⟩ := r1.list
    exact ⟨a, xs, rfl, .inl (SqL.of h1), fun l hl => Goal.newLst g hs h3 hl⟩
  · cases h
    obtain ⟨v, rfl, r1⟩ := r.one
    obtain ⟨a, xs, rfl, h1, h2, h3⟩ := r1.tuple
    exact ⟨a, xs, rfl, .inr (SqT.of h1), fun l hl => Goal.newLst g hs h3 hl⟩
  · cases h
theorem ok_int (hs : StR K ca Mu al S H) (r : RepBs K Mu al H vs ds) (h : intV ds = some o) (g : Goal K ca pu Ex Mu al S H (ROut K false) (.ok o S) Q) :
    (∃ i, vs = [.int i] ∧ Q (.int i) H) ∨ ∃ k, vs = [.bl k] ∧ Q (.int (if k then 1 else 0)) H := by
  unfold intV at h
  split at h
  · cases h
    obtain ⟨v, rfl, r1⟩ := r.one
    cases r1.int
    exact .inl ⟨_, rfl, Goal.val g hs (.int _)⟩
  · cases h
    obtain ⟨v, rfl, r1⟩ := r.one
    cases r1.bool
    exact .inr ⟨_, rfl, Goal.val g hs (.int _)⟩
  · cases h
theorem ok_min (hs : StR K ca Mu al S H) (r : RepBs K Mu al H vs ds) (h : minV ds = some o) (g : Goal K ca pu Ex Mu al S H (ROut K false) (.ok o S) Q) : ∃ i j, vs = [.int i, .int j] ∧ Q (.int (if j < i then j else i)) H := by
  unfold minV at h
  split at h
  · cases h
    obtain ⟨v, u, rfl, r1, r2⟩ := r.two
    cases r1.int
    cases r2.int
    exact ⟨_, _, rfl, Goal.val g hs (.int _)⟩
  · cases h
theorem ok_max (hs : StR K ca Mu al S H) (r : RepBs K Mu al H vs ds) (h : maxV ds = some o) (g : Goal K ca pu Ex Mu al S H (ROut K false) (.ok o S) Q) : ∃ i j, vs = [.int i, .int j] ∧ Q (.int (if j > i then j else i)) H := by
  unfold maxV at h
  split at h
  · cases h
    obtain ⟨v, u, rfl, r1, r2⟩ := r.two
    cases r1.int
    cases r2.int
    exact ⟨_, _, rfl, Goal.val g hs (.int _)⟩
  · cases h
/-! ### isinstance -/
theorem isB_ok (a b : Ty) : kitB a.name b.name = some (isB a b) := by
  cases a <;> cases b <;> decide +kernel
theorem ty_ok {v : V} {d : D} {t : Ty} (r : RepB K Mu al H v d) (h : d.ty = some t) : TyX K H v (.type t.name) := by
  cases d with
  | non => cases h; cases r.non; exact .base .non
  | bool b => cases h; cases r.bool; exact .base (.bl b)
  | int i => cases h; cases r.int; exact .base (.int i)
  | str x => cases h; cases r.str; exact .base (.str x)
  | list xs =>
    cases h
    obtain ⟨a, ys, rfl, h1, _⟩ := r.list
    exact .base (.lst h1)
  | tuple xs =>
    cases h
    obtain ⟨a, ys, rfl, h1, _⟩ := r.tuple
    exact .base (.tup h1)
  | _ => cases h
end
/-- the name of a built-in type -/
theorem pe_type {T : Ty} {p : Pos} {nm : Str} (hg : Gl X nm) (hm : X.mg nm = none) (hv : bootBuiltins nm = some (.type T.name)) (hn : nm ≠ "__name__") (hdb : (nm == ("__debug__" : Str)) = false) : PE X (.Name nm p) (tC (.ty T.name)) :=
  pe_bltn hg hm hv rfl hn hdb
theorem isV_imp {c : CE} {T : Ty} (σ : L2.St) (H : Hp) (Q : VK) (h : tD X.K ca W L.pu false (ev L (.prim (.isI T) (.cons c .nil))) σ H Q) :
    tCB (rIsi X.K) (tCons (tD X.K ca W L.pu c.isBor (ev L c)) (tCons (tC (.ty T.name)) tNil)) σ H Q := by
  obtain ⟨Mu, al, S, r', he, hs, hg⟩ := h
  have e : ev L (.prim (.isI T) (.cons c .nil)) r' = (ev L c r' >>= fun x => ofOpt (isV T [x.d])) := by
    show ((ev L c r' >>= fun x => (pure [] >>= fun xs => pure (x.d :: xs))) >>= fun ds => ofOpt (isV T ds)) = _
    rw [M.bind_assoc]
    rfl
  rw [e] at hg
  refine ⟨Mu, al, S, r', he, hs, Goal.seq mono_out hg fun o1 S1 al1 v1 H1 p1 r1 g1 => ?_⟩
  have r1 := r1.repB p1.st
  generalize o1.d = d1 at g1 r1
  cases q : d1.ty with
  | none =>
    have g1 : Goal X.K ca L.pu _ _ al1 S1 H1 (ROut X.K false) (ofOpt (d1.ty.map fun t => Out.v (.bool (isB t T))) S1) Q := g1
    rw [q] at g1
    exact g1.elim
  | some t =>
    have g1 : Goal X.K ca L.pu _ _ al1 S1 H1 (ROut X.K false) (ofOpt (d1.ty.map fun t => Out.v (.bool (isB t T))) S1) Q := g1
    rw [q] at g1
    exact ⟨v1, .ty T.name, .type t.name, .type T.name, isB t T, rfl, .ty _, ty_ok r1 q, kit_ty (isB_ok t T), Goal.val g1 p1.st (.bool _)⟩
theorem snd_isI {e : Expr} {c : CE} {T : Ty} {p1 p2 : Pos} {nm : Str} (hgi : Gl X "isinstance") (hmi : X.mg "isinstance" = none) (hg : Gl X nm) (hm : X.mg nm = none) (hv : bootBuiltins nm = some (.type T.name)) (hn : nm ≠ "__name__") (hdb : (nm == ("__debug__" : Str)) = false) (hp : plainE e = true) (h : SE X ca W L e c) :
    SE X ca W L (.Call (.Name "isinstance" p1) [e, .Name nm p2] [] pos) (.prim (.isI T) (.cons c .nil)) :=
  imE (pe_callB call_isi hgi hmi (by decide +kernel) (pa_cons h (pa_cons (pe_type hg hm hv hn hdb) pa_nil) (star1 hp)) (he := star1 hp)) isV_imp
theorem is2V_imp {c : CE} {T U : Ty} (σ : L2.St) (H : Hp) (Q : VK) (h : tD X.K ca W L.pu false (ev L (.prim (.is2 T U) (.cons c .nil))) σ H Q) :
    tCB (rIsiT X.K) (tCons (tD X.K ca W L.pu c.isBor (ev L c)) (tCons (tTup (tCons (tC (.ty T.name)) (tCons (tC (.ty U.name)) tNil))) tNil)) σ H Q := by
  obtain ⟨Mu, al, S, r', he, hs, hg⟩ := h
  have e : ev L (.prim (.is2 T U) (.cons c .nil)) r' = (ev L c r' >>= fun x => ofOpt (is2V T U [x.d])) := by
    show ((ev L c r' >>= fun x => (pure [] >>= fun xs => pure (x.d :: xs))) >>= fun ds => ofOpt (is2V T U ds)) = _
    rw [M.bind_assoc]
    rfl
  rw [e] at hg
  refine ⟨Mu, al, S, r', he, hs, Goal.seq mono_out hg fun o1 S1 al1 v1 H1 p1 r1 g1 => ⟨by show 2 ≤ sizeLine; decide, fun p hp => ?_⟩⟩
  have r1 := r1.repB p1.st
  generalize o1.d = d1 at g1 r1
  have g1 : Goal X.K ca L.pu _ _ al1 S1 H1 (ROut X.K false) (ofOpt (d1.ty.map fun t => Out.v (.bool (isB t T || isB t U))) S1) Q := g1
  cases q : d1.ty with
  | none =>
    rw [q] at g1
    exact g1.elim
  | some t =>
    rw [q] at g1
    have go : Goes X.K (MuA Mu al1) (MuA Mu al1) al1 al1 H1 (upd H1 p (.tup [V.ty T.name, V.ty U.name])) := ⟨fun a o _ e _ => same_upd hp a o e, fun _ _ h _ _ => h, fun _ _ h => h⟩
    have r2 : RepB X.K (MuA Mu al1) al1 (upd H1 p (.tup [V.ty T.name, V.ty U.name])) v1 d1 := r1.go go (fun b o _ e _ => same_upd hp b o e) fun a ha => .inl ha
    refine ⟨v1, p, [.ty T.name, .ty U.name], .type t.name, [.type T.name, .type U.name], isB t T || isB t U, rfl, upd_same, .cons (.ty _) (.cons (.ty _) .nil), ty_ok r2 q, ?_, ?_⟩
    · refine kitAny_cons (kit_ty (isB_ok t T)) (fun e => ?_) fun e => by rw [e]; rfl
      rw [e, Bool.false_or]
      exact kitAny_cons (kit_ty (isB_ok t U)) (fun e => by rw [e]; exact kitAny_nil) fun e => e
    · exact Goal.ok g1 (Post.same p1.st (same_upd hp)) (OutB.of (.bool _))
theorem snd_is2 {e : Expr} {c : CE} {T U : Ty} {p1 p2 p3 p4 : Pos} {k : Nat} {nm nu : Str} (hgi : Gl X "isinstance") (hmi : X.mg "isinstance" = none) (hg : Gl X nm) (hm : X.mg nm = none) (hv : bootBuiltins nm = some (.type T.name)) (hn : nm ≠ "__name__") (hdb : (nm == ("__debug__" : Str)) = false)
    (hg' : Gl X nu) (hm' : X.mg nu = none) (hv' : bootBuiltins nu = some (.type U.name)) (hn' : nu ≠ "__name__") (hdb' : (nu == ("__debug__" : Str)) = false) (hp : plainE e = true) (h : SE X ca W L e c) :
    SE X ca W L (.Call (.Name "isinstance" p1) [e, .Tuple [.Name nm p2, .Name nu p3] k p4] [] pos) (.prim (.is2 T U) (.cons c .nil)) :=
  imE (pe_callB call_isiT hgi hmi (by decide +kernel) (pa_cons h (pa_cons (pe_tup (pa_cons (pe_type hg hm hv hn hdb) (pa_cons (pe_type hg' hm' hv' hn' hdb') pa_nil))) pa_nil) (star1 hp)) (he := star1 hp)) is2V_imp
end
end Pb
end

section
set_option Elab.async false
set_option linter.all false
set_option maxRecDepth 100000
set_option maxHeartbeats 1000000
/-! Calls of defs of the text. -/
namespace Pb
open PySem PySem.Spec PyProof.Rows L2
def purOf (T : Tb) (f : Fn) : Option Bool := match T.pr f with
  | some (q, _) => some q
  | none => (T.fd f).map (·.pu)
theorem callN_mode {T : Tb} {f : Fn} {p : Bool} (h : purOf T f = some p) (n : Nat) (pu : Bool) (as : List D) : callN T n pu f as = if (pu && !p) = true then M.bad else callN T n p f as := by
  cases n with
  | zero => simp [callN]
  | succ n =>
    unfold purOf at h
    unfold callN
    cases q : T.pr f with
    | some x =>
      obtain ⟨a, g⟩ := x
      rw [q] at h
      cases h
      dsimp only
      cases pu <;> cases p <;> rfl
    | none =>
      rw [q] at h
      cases q2 : T.fd f with
      | none => rw [q2] at h; cases h
      | some d =>
        rw [q2] at h
        cases h
        dsimp only
        generalize runF ⟨d.pu, callN T n d.pu, callN T n true, T.lo⟩ d as = z
        rcases Bool.eq_false_or_eq_true d.pu with h | h <;> cases pu <;> simp [h]
theorem nb_app : ∀ (as : CA) {lits : CA}, lits.nb = true → (as.app lits).nb = as.nb
  | .nil, lits, h => by simp [CA.app, CA.nb, h]
  | .cons e t, lits, h => by simp [CA.app, CA.nb, nb_app t h]
/-- what a def of the text promises: what the run says -/
def spF (K : PySem.W.Frag) (ca : Ca) (pu : Bool) (run : List D → M Out) : Sp := fun vs H Q E =>
  ∃ Mu al S ds, Reps K Mu al H vs ds ∧ StR K ca Mu al S H ∧ Goal K ca pu E Mu al S H (ROut K false) (run ds S) Q
/-- a def at the name x: called with np arguments, those behind the first by defaults -/
structure FnIn (X : Cx) (ca : Ca) (T : Tb) (n lv : Nat) (x : Str) (fn : Fn) (p : Bool) (f : Addr) (fd : FuncData) (ps : List Str) : Prop where
  ok : FnOk X.prog X.w X.K X.mg X.base (L2.CX X.prog X.w) lv f fd ps (spF X.K ca p (callN T n p fn))
  mg : X.mg x = some (.ref f)
  kp : PySem.W.keepIn X.K (.ref f) = true
  pur : purOf T fn = some p
section
variable {X : Cx} {ca : Ca} {W : WX} {pu : Bool} {L : Lk} {pos : Pos} {T : Tb} {n lv : Nat} {x : Str} {fn : Fn} {p : Bool} {f : Addr} {fd : FuncData} {ps : List Str}
/-- a pure run where less is wished -/
theorem Goal.pure_of {α β : Type} {K : PySem.W.Frag} {Ex : XK} {Mu : Addr → Prop} {al : List Addr} {S : List SO} {H : Hp} {Rel : RelT α β} {res : R α} {Q : β → Hp → Prop} (h : Goal K ca pu Ex Mu al S H Rel res Q) : Goal K ca true Ex Mu al S H Rel res Q := by
  cases res with
  | ok o S' => exact fun v H' al' q r => h v H' al' q.weak r
  | exc x S' => exact fun cls dx H' al' q r => h cls dx H' al' q.weak r
  | bad => exact h
/-- the callee's run, for the wish of the caller's mode -/
theorem call_goal {K : PySem.W.Frag} {Ex : XK} {Mu : Addr → Prop} {al : List Addr} {S : List SO} {H : Hp} {Q : VK} {ds : List D} (hp : purOf T fn = some p) (h : Goal K ca pu Ex Mu al S H (ROut K false) (callN T n pu fn ds S) Q) : Goal K ca p Ex Mu al S H (ROut K false) (callN T n p fn ds S) Q := by
  rw [callN_mode hp] at h
  cases pu with
  | false =>
    rw [if_neg (by simp)] at h
    cases p with
    | false => exact h
    | true => exact Goal.pure_of h
  | true =>
    cases p with
    | true =>
      rw [if_neg (by simp)] at h
      exact h
    | false =>
      rw [if_pos (by rfl)] at h
      exact h.elim
theorem call_imp {as : CA} {lits : CA} {dvs : List V} {lds : List D} (hL : L.call = callN T n L.pu) (F : FnIn X ca T n lv x fn p f fd ps) (hlit : ∀ r, evA L (as.app lits) r = (evA L as r >>= fun ds => pure (ds ++ lds))) (hnb : lits.nb = true)
    (hrep : ∀ Mu al H, Reps X.K Mu al H dvs lds)
    (σ : L2.St) (H : Hp) (Q : VK) (h : tD X.K ca W L.pu false (ev L (.call fn (as.app lits))) σ H Q) : tCallSD (spF X.K ca p (callN T n p fn)) dvs (WE W) (tAs X.K ca W L as) σ H Q := by
  obtain ⟨Mu, al, S, r', he, hs, hg⟩ := h
  have hg : Goal X.K ca L.pu _ Mu al S H (ROut X.K false) ((if (as.app lits).nb = true then (evA L (as.app lits) r' >>= fun ds => L.call fn ds) else M.bad : M Out) S) Q := hg
  rw [nb_app as hnb] at hg
  cases hb : as.nb with
  | false =>
    rw [hb] at hg
    exact hg.elim
  | true =>
    rw [hb, if_pos rfl, hlit, M.bind_assoc] at hg
    refine ⟨Mu, al, S, r', he, hs, Goal.seq mono_out hg fun ds S1 al1 vs H1 p1 r1 g1 => ?_⟩
    have r1 := r1.2 hb
    have g1 : Goal X.K ca L.pu _ _ al1 S1 H1 (ROut X.K false) (L.call fn (ds ++ lds) S1) Q := g1
    rw [hL] at g1
    exact ⟨_, al1, S1, ds ++ lds, r1.append (hrep _ _ _), p1.st, call_goal F.pur g1⟩
theorem app_nil : ∀ as : CA, as.app .nil = as
  | .nil => rfl
  | .cons e t => congrArg (CA.cons e) (app_nil t)
theorem snd_call {e : Expr} {es : List Expr} {as : CA} {np : Pos} (hL : L.call = callN T n L.pu) (F : FnIn X ca T n lv x fn p f fd ps) (hb : Binds X.K fd ps []) (tk : Takes X W) (hr : Room lv X.A) (hg : Gl X x) (hdb : (x == ("__debug__" : Str)) = false)
    (hp : (e :: es).all plainE = true) (ha : SA X ca W L (e :: es) as) : SE X ca W L (.Call (.Name x np) (e :: es) [] pos) (.call fn as) := by
  rw [List.all_cons, Bool.and_eq_true] at hp
  refine imE (pe_callSD F.ok hr hg F.mg F.kp hb .nil (fun σ => passAt tk σ) ha hdb (star1 hp.1) (starN hp.2)) fun σ H Q h => ?_
  refine call_imp (as := as) (lits := .nil) (lds := []) hL F (fun r => ?_) rfl (fun _ _ _ => .nil) σ H Q (by rw [app_nil]; exact h)
  rw [app_nil]
  have e : (fun ds : List D => (pure (ds ++ []) : M (List D))) = pure := by
    funext ds
    rw [List.append_nil]
  rw [e]
  exact (M.bind_pure _).symm
/-- .. where a default is written into the run -/
theorem evA_app1 {c : CE} (r : Rho) : ∀ as : CA, evA L (as.app (.cons c .nil)) r = (evA L as r >>= fun ds => ev L c r >>= fun x => pure (ds ++ [x.d]))
  | .nil => by
    show (ev L c r >>= fun x => (pure [] : M (List D)) >>= fun xs => pure (x.d :: xs)) = ((pure [] : M (List D)) >>= fun ds => ev L c r >>= fun x => pure (ds ++ [x.d]))
    rfl
  | .cons e t => by
    show (ev L e r >>= fun x => evA L (t.app (.cons c .nil)) r >>= fun xs => pure (x.d :: xs)) = ((ev L e r >>= fun x => evA L t r >>= fun xs => pure (x.d :: xs)) >>= fun ds => ev L c r >>= fun x => pure (ds ++ [x.d]))
    rw [evA_app1 r t, M.bind_assoc]
    congr 1
    funext x
    rw [M.bind_assoc, M.bind_assoc]
    congr 1
    funext ds
    rw [M.bind_assoc]
    rfl
theorem snd_callD {e : Expr} {es : List Expr} {as : CA} {np : Pos} {d : D} {dv : V} {du : Value} (hL : L.call = callN T n L.pu) (F : FnIn X ca T n lv x fn p f fd ps) (hb : Binds X.K fd ps [du]) (hd : RelV dv du) (hrd : ∀ Mu al H, Rep X.K Mu al H dv d) (tk : Takes X W) (hr : Room lv X.A) (hg : Gl X x) (hdb : (x == ("__debug__" : Str)) = false)
    (hp : (e :: es).all plainE = true) (ha : SA X ca W L (e :: es) as) : SE X ca W L (.Call (.Name x np) (e :: es) [] pos) (.call fn (as.app (.cons (.lit d) .nil))) := by
  rw [List.all_cons, Bool.and_eq_true] at hp
  refine imE (pe_callSD F.ok hr hg F.mg F.kp hb (.cons hd .nil) (fun σ => passAt tk σ) ha hdb (star1 hp.1) (starN hp.2)) fun σ H Q h => ?_
  exact call_imp (as := as) (lits := .cons (.lit d) .nil) (lds := [d]) hL F (fun r => evA_app1 r as) rfl (fun _ _ _ => .cons (hrd _ _ _) .nil) σ H Q h
/-! ### a keyword behind -/
section
variable {ks : List Str} {g : List Value → List Value → List Value} {gV : List V → List V → List V} {m : Nat}
def tCallNS (n m : Nat) (sp : Sp) (gV : List V → List V → List V) (E : L2.St → XK) (t tk : TA) : TE := fun σ H Q => t σ H fun vs H1 => tk σ H1 fun zs H2 => vs.length = n ∧ zs.length = m ∧ sp (gV vs zs) H2 Q (E σ)
theorem pe_callNS {CX : CXT} {sp : Sp} {E : L2.St → XK} {e : Expr} {es : List Expr} {kws : List Keyword} {t tk : TA} {np : Pos} (F : FnOk X.prog X.w X.K X.mg X.base CX lv f fd ps sp) (hr : Room lv X.A) (hg : Gl X x) (hm : X.mg x = some (.ref f)) (hk : PySem.W.keepIn X.K (.ref f) = true) (hb : KBn X.K fd ps m ks g gV) (hx : ∀ σ, PassesAt CX X σ (E σ))
    (ha : PA X (e :: es) t) (hkw : PK X kws tk) (hall : (backToKw pos (keywordEach kws X.env)).all (·.1.isSome) = true) (hks : (backToKw pos (keywordEach kws X.env)).filterMap (·.1) = ks)
    (hdb : (x == ("__debug__" : Str)) = false) (he : starEach (e :: es) X.env = (false, eval e X.env) :: starEach es X.env)
    (hpl : ((backTo pos (starEach (e :: es) X.env)).any (·.1) || (backToKw pos (keywordEach kws X.env)).any (·.1.isNone)) = false) :
    PE X (.Call (.Name x np) (e :: es) kws pos) (tCallNS m ks.length sp gV E t tk) := by
  refine ⟨fun pins s σ H Q I h => ?_⟩
  refine wpAny_Call_Name_kw (ld_glob I hg hm ?_ hdb)
  refine PySem.W.callWith_KW (h₀ := X.base) I.ok.mod.kin hk hall (thn (ha.run pos pins s σ H _ I h) fun us s1 ⟨vs, H1, I1, r, q⟩ => ?_) hpl he
  refine thn (hkw.run pos pins s1 σ H1 _ I1 q) fun ws s2 ⟨zs, H2, I2, rz, l1, l2, q2⟩ => ⟨I2.kIn, ?_⟩
  rw [hks]
  have r2 := hb.rel r rz
  refine wpAny_call (codeAny_mono (F.run X.A X.stack s2 H2 ⟨us, ks.zip ws⟩ (g us ws) (gV vs zs) Q (E σ) hr I2.env0 (hb.to s2 us ws I2.kIn (r.length.symm.trans l1) (rz.length.symm.trans l2)) r2 q2) fun r s' hq => ?_)
  cases r with
  | error e => exact hx σ pins H2 s2 e s' I2 hq
  | ok fl =>
    cases fl with
    | ret u => exact I2.after hq
    | next => exact False.elim hq
    | brk => exact False.elim hq
    | cont => exact False.elim hq
theorem snd_callK {e v : Expr} {es : List Expr} {as : CA} {c : CE} {nm : Str} {np kpos : Pos} (hc : c.isBor = false) (hL : L.call = callN T n L.pu) (F : FnIn X ca T n lv x fn p f fd ps) (hb : KBn X.K fd ps (e :: es).length [nm] g (fun vs zs => vs ++ zs)) (hps : ps.length = es.length + 2) (tk : Takes X W) (hr : Room lv X.A) (hg : Gl X x) (hdb : (x == ("__debug__" : Str)) = false)
    (hp : (e :: es).all plainE = true) (ha : SA X ca W L (e :: es) as) (hv : SE X ca W L v c) (hn : ∀ r S ds S', evA L as r S = .ok ds S' → ds.length = es.length + 1) : SE X ca W L (.Call (.Name x np) (e :: es) [⟨some nm, v, kpos⟩] pos) (.call fn (as.app (.cons c .nil))) := by
  have hp' := hp
  rw [List.all_cons, Bool.and_eq_true] at hp
  refine imE (pe_callNS F.ok hr hg F.mg F.kp hb (fun σ => passAt tk σ) ha (pk_cons hv pk_nil) rfl rfl hdb (star1 hp.1) (by rw [starN hp']; rfl)) fun σ H Q h => ?_
  obtain ⟨Mu, al, S, r', he, hs, hg⟩ := h
  have hg : Goal X.K ca L.pu _ Mu al S H (ROut X.K false) ((if (as.app (.cons c .nil)).nb = true then (evA L (as.app (.cons c .nil)) r' >>= fun ds => L.call fn ds) else M.bad : M Out) S) Q := hg
  rw [nb_app as (by simp [CA.nb, hc]), evA_app1] at hg
  cases hb : as.nb with
  | false =>
    rw [hb] at hg
    exact hg.elim
  | true =>
    rw [hb, if_pos rfl, M.bind_assoc] at hg
    have hlen := hn r' S
    refine ⟨Mu, al, S, r', he, hs, ?_⟩
    have key : ∀ ds S1, evA L as r' S = .ok ds S1 → ds.length = es.length + 1 := hlen
    have hg2 := Goal.seq (Rel1 := RArgs X.K as.nb) mono_out hg (Q1 := fun vs H1 => vs.length = es.length + 1 → tCons (tD X.K ca W L.pu c.isBor (ev L c)) tNil σ H1 fun zs H2 => vs.length = (e :: es).length ∧ zs.length = [nm].length ∧ spF X.K ca p (callN T n p fn) (vs ++ zs) H2 Q (WE W σ)) fun ds S1 al1 vs H1 p1 r1 g1 hvl => ?_
    · cases q : evA L as r' S with
      | bad => rw [q] at hg2; exact hg2
      | exc x S' => rw [q] at hg2; exact hg2
      | ok ds S1 =>
        rw [q] at hg2
        intro vs H1 al1 p1 r1
        refine hg2 vs H1 al1 p1 r1 ?_
        rw [← key ds S1 q]
        exact (r1.2 hb).length
    · have r1' := r1.2 hb
      rw [M.bind_assoc] at g1
      refine ⟨_, al1, S1, r', he.post hs p1, p1.st, Goal.seq mono_out g1 fun o2 S2 al2 v2 H2 p2 r2 g2 => ⟨hvl, rfl, ?_⟩⟩
      have g2 : Goal X.K ca L.pu _ _ al2 S2 H2 (ROut X.K false) (L.call fn (ds ++ [o2.d]) S2) Q := g2
      rw [hL] at g2
      rw [hc] at r2
      exact ⟨_, al2, S2, ds ++ [o2.d], (r1'.go (p2.goes p1.st)).append (.cons (r2.rep p2.st) .nil), p2.st, call_goal F.pur g2⟩
end
/-! ### a call that reads a list of the frame's own -/
mutual
theorem Rep.noLst {K : PySem.W.Frag} {Mu Mu' : Addr → Prop} {al al' : List Addr} {H : Hp} (hm : ∀ a xs, Mu' a → H a ≠ some (.tup xs)) : ∀ {v : V} {d : D}, Rep K Mu al H v d → d.noLst = true → Rep K Mu' al' H v d
  | _, _, .non, _ => .non
  | _, _, .bool b, _ => .bool b
  | _, _, .int i, _ => .int i
  | _, _, .str x, _ => .str x
  | _, _, .list _ _ _, h => by simp [D.noLst] at h
  | _, _, .tuple h1 h2 h3, h => .tuple h1 (fun z => hm _ _ z h1) (Reps.noLst hm h3 (by simpa [D.noLst] using h))
  | _, _, .loc _, h => by simp [D.noLst] at h
  | _, _, .scr _ _, h => by simp [D.noLst] at h
  | _, _, .scrK _, h => by simp [D.noLst] at h
  | _, _, .clo, _ => .clo
theorem Reps.noLst {K : PySem.W.Frag} {Mu Mu' : Addr → Prop} {al al' : List Addr} {H : Hp} (hm : ∀ a xs, Mu' a → H a ≠ some (.tup xs)) : ∀ {vs : List V} {ds : List D}, Reps K Mu al H vs ds → D.noLst.noLsts ds = true → Reps K Mu' al' H vs ds
  | _, _, .nil, _ => .nil
  | _, _, .cons r t, h => by
    simp only [D.noLst.noLsts, Bool.and_eq_true] at h
    exact .cons (Rep.noLst hm r h.1) (Reps.noLst hm t h.2)
end
theorem Rep.less {K : PySem.W.Frag} {Mu Mu' : Addr → Prop} {al : List Addr} {H : Hp} (h : ∀ a, Mu' a → Mu a) {v : V} {d : D} (r : Rep K Mu al H v d) : Rep K Mu' al H v d :=
  r.go ⟨fun _ _ _ e _ => e, fun a _ n _ _ z => n (h a z), fun _ _ e => e⟩
theorem Reps.less {K : PySem.W.Frag} {Mu Mu' : Addr → Prop} {al : List Addr} {H : Hp} (h : ∀ a, Mu' a → Mu a) {v : List V} {d : List D} (r : Reps K Mu al H v d) : Reps K Mu' al H v d :=
  Reps.go ⟨fun _ _ _ e _ => e, fun a _ n _ _ z => n (h a z), fun _ _ e => e⟩ r
theorem RepBs.less {K : PySem.W.Frag} {Mu : Addr → Prop} {al : List Addr} {H : Hp} (hm : ∀ a, a ∈ al → Mu a) : ∀ {vs : List V} {ds : List D}, RepBs K Mu al H vs ds → Reps K (fun a => a ∈ al) al H vs ds
  | _, _, .nil => .nil
  | _, _, .cons r t => by
    refine .cons ?_ (RepBs.less hm t)
    rcases r with r | ⟨a, xs, es, rfl, rfl, h1, h2, h3⟩
    · exact r.less hm
    · exact .list h1 h2 (h3.less hm)
theorem StR.less {K : PySem.W.Frag} {Mu : Addr → Prop} {al : List Addr} {S : List SO} {H : Hp} (s : StR K ca Mu al S H) : StR K ca (fun a => a ∈ al) al S H where
  len := s.len
  nd := s.nd
  mu := fun _ h => h
  tr := fun a h => s.tr a (s.mu a h)
  ob := fun n o a h1 h2 => by
    have q := s.ob n o a h1 h2
    cases o with
    | lst ds =>
      obtain ⟨vs, h3, h4⟩ := q
      exact ⟨vs, h3, h4.less s.mu⟩
    | dct _ => exact q
    | ins _ _ => exact q
  tb := s.tb
  xd := s.xd
  xr := fun p hp => (s.xr p hp).less s.mu
theorem snd_callb {e : Expr} {es : List Expr} {as : CA} {np : Pos} (hL : L.callp = callN T n true) (F : FnIn X ca T n lv x fn p f fd ps) (hb : Binds X.K fd ps []) (tk : Takes X W) (hr : Room lv X.A) (hg : Gl X x) (hdb : (x == ("__debug__" : Str)) = false)
    (hp : (e :: es).all plainE = true) (ha : SA X ca W L (e :: es) as) : SE X ca W L (.Call (.Name x np) (e :: es) [] pos) (.callb fn as) := by
  rw [List.all_cons, Bool.and_eq_true] at hp
  refine imE (pe_callSD F.ok hr hg F.mg F.kp hb .nil (fun σ => passAt tk σ) ha hdb (star1 hp.1) (starN hp.2)) fun σ H Q h => ?_
  obtain ⟨Mu, al, S, r', he, hs, hg⟩ := h
  have hg : Goal X.K ca L.pu _ Mu al S H (ROut X.K false) ((evA L as r' >>= fun ds => M.nox (L.callp fn ds) >>= fun o => match o with
    | .v d => if d.noLst then pure (.v d) else M.bad
    | .own _ => M.bad) S) Q := hg
  refine ⟨Mu, al, S, r', he, hs, Goal.seq mono_out hg fun ds S1 al1 vs H1 p1 r1 g1 => ?_⟩
  have r1 := r1.1
  rw [hL, callN_mode F.pur] at g1
  rw [List.append_nil]
  cases p with
  | false =>
    exact g1.elim
  | true =>
    refine ⟨fun a => a ∈ al1, al1, S1, ds, r1.less p1.st.mu, p1.st.less, ?_⟩
    have g1 : Goal X.K ca L.pu _ _ al1 S1 H1 (ROut X.K false) (M.bind (M.nox (callN T n true fn ds)) (fun o => match o with
    | .v d => if d.noLst then pure (.v d) else M.bad
    | .own _ => M.bad) S1) Q := g1
    unfold M.bind M.nox at g1
    cases q : callN T n true fn ds S1 with
    | bad =>
      rw [q] at g1
      exact g1
    | exc x S' =>
      rw [q] at g1
      exact g1.elim
    | ok o S' =>
      rw [q] at g1
      intro v H' al' pp rr
      obtain ⟨e1, e2, e3⟩ := pp.pur rfl
      subst e1 e2
      cases o with
      | own _ => exact g1.elim
      | v d =>
        cases hd : d.noLst with
        | false =>
          simp only [hd] at g1
          exact g1.elim
        | true =>
          simp only [hd] at g1
          refine g1 v H' _ (Post.sameN p1.st e3 pp.st.tb) (OutB.of ?_)
          have rr := OutB.out rr
          refine Rep.noLst (fun a xs hm z => ?_) (show Rep X.K _ _ H' v d from rr) hd
          have hm : MuA Mu al' a := by
            rw [muA_eq p1.st.mu] at hm
            exact hm
          have m := p1.st.tr a hm
          obtain ⟨o, ho, nt⟩ := mut_nt m
          have z' := e3 a o ho nt
          rw [z] at z'
          cases z'
          rw [ho] at m
          exact m
end
end Pb
end

section
set_option Elab.async false
set_option linter.all false
set_option maxRecDepth 100000
set_option maxHeartbeats 1000000
/-! What is walked; comprehensions. -/
namespace Pb
open PySem PySem.Spec PyProof.Rows L2
def StM (Mu : Addr → Prop) (H H' : Hp) : Prop := ∀ b o, ¬ Mu b → H b = some o → NT o → H' b = some o
/-- the iterator hands out the items, while what stands for them stays -/
structure ItOk (K : PySem.W.Frag) (Mu : Addr → Prop) (al : List Addr) (nb : Bool) (H : Hp) (J : It) (items : List D) : Prop where
  len : items.length ≤ sizeLine
  ex : ∃ (G : Hp → Prop) (Y : Nat → Hp → V → Hp → Prop), Walk J items.length G Y ∧ (∀ H2, (nb = true → StM Mu H H2) → (nb = false → Ext al H H2) → G H2) ∧
    ∀ (i : Nat) (x : V) (d : D) (H2 H3 : Hp) (Mu2 : Addr → Prop) (al2 : List Addr), items[i]? = some d → Goes K Mu Mu2 al al2 H H2 → (∀ a, Mu2 a → ∃ o, H2 a = some o) → Y i H2 x H3 → Same H2 H3 ∧ Rep K Mu2 al2 H3 x d
abbrev RIt (K : PySem.W.Frag) (nb : Bool) : RelT (List D) It := fun _ Mu al H J items => ItOk K Mu al nb H J items
theorem mono_it {K : PySem.W.Frag} {nb : Bool} : Mono (RIt K nb) := fun _ _ _ _ _ _ _ _ h => h
def CI.nb : CI → Bool
  | .rng _ => true
  | .seq e => !e.isBor
  | .zip a b => !a.isBor && !b.isBor
  | .enum e => !e.isBor
section
variable {X : Cx} {ca : Ca} {W : WX} {pu : Bool} {L : Lk} {pos : Pos}
def tI (K : PySem.W.Frag) (ca : Ca) (W : WX) (L : Lk) (c : CI) : TI := fun σ H R =>
  ∃ Mu al S r, EnvR K Mu al r σ H ∧ StR K ca Mu al S H ∧ Goal K ca L.pu (fun cls dx H' => W cls dx σ H') Mu al S H (RIt K c.nb) (evI L c r S) R
abbrev SI (X : Cx) (ca : Ca) (W : WX) (L : Lk) (tg e : Expr) (c : CI) : Prop := PI X tg e (tI X.K ca W L c)
def LenOk (K : PySem.W.Frag) (H : Hp) : Prop := ∀ a xs, SqL K H a xs ∨ SqT K H a xs → xs.length ≤ sizeLine
theorem lenOk {pins : List (Addr × Obj)} {σ : L2.St} {H : Hp} {s : Shared} (I : Inv X pins σ H s) : LenOk X.K H := fun a xs h => by
  rcases h with h | h
  · obtain ⟨_, _, _, hz⟩ := I.list h
    exact hz
  · obtain ⟨_, _, _, hz⟩ := I.tuple h
    exact hz
theorem pe_len {e : Expr} {t : TE} (h : PE X e t) : PE X e (fun σ H Q => t σ H fun v H' => LenOk X.K H' → Q v H') := ⟨fun pins s σ H Q I hw =>
  wpAny_mono (h.run pins s σ H _ I hw) (fun _ _ ⟨v, H', I', r, q⟩ => ⟨v, H', I', r, q (lenOk I')⟩) fun _ _ z => z⟩
/-- a list or a tuple or the script that is walked -/
theorem pi_seq {tg l : Expr} {tl : TE} (hl : PE X l tl) : PI X tg l (fun σ H R => tl σ H fun x H1 => ∃ a, x = .ref a ∧ (((∃ xs, SqL X.K H1 a xs) ∧ R (Itl X.K a) H1) ∨ ((∃ xs, SqT X.K H1 a xs) ∧ R (Itt X.K a) H1))) := by
  refine ⟨fun pins s σ H R I h => ?_⟩
  refine thn (hl.run pins s σ H _ I h) fun v s1 ⟨x, H1, I1, r1, q1⟩ => ?_
  obtain ⟨a, e, q⟩ := q1
  subst e
  cases r1
  rcases q with ⟨⟨xs, hq⟩, q⟩ | ⟨⟨xs, hq⟩, q⟩
  · obtain ⟨its, rv, p, hz⟩ := I1.list hq
    refine wpAny_pyIter_list p.isList ?_
    refine ⟨s1.heap.objs.size, [s1.heap.objs.size], _, _, H1, rfl, I1.kept (t' := s1.toks) fun b o e => Heap.get?_push_of_some _ e, turn_list a _, ⟨_, Heap.get?_push_size _ rfl, rfl, rfl⟩, fun b hb => ?_, q⟩
    have e : b = s1.heap.objs.size := by simpa using hb
    subst e
    exact I1.fpOk (Nat.le_refl _) (I1.hok.fresh (Nat.le_refl _))
  · obtain ⟨its, rv, p, hz⟩ := I1.tuple hq
    refine wpAny_pyIter_tuple (show s1.heap.IsTuple a its.toArray from p) ?_
    refine ⟨s1.heap.objs.size, [s1.heap.objs.size], _, _, H1, rfl, I1.kept (t' := s1.toks) fun b o e => Heap.get?_push_of_some _ e, turn_tuple a _, ⟨_, Heap.get?_push_size _ rfl, rfl, rfl⟩, fun b hb => ?_, q⟩
    have e : b = s1.heap.objs.size := by simpa using hb
    subst e
    exact I1.fpOk (Nat.le_refl _) (I1.hok.fresh (Nat.le_refl _))
/-- what may be read as a walk of items -/
inductive SeqR (K : PySem.W.Frag) (Mu : Addr → Prop) (al : List Addr) (nb : Bool) (H : Hp) : V → List D → Prop
  | list {a : Addr} {xs : List V} {ds : List D} : H a = some (.lst xs) → (nb = true → ¬ Mu a) → a ∉ al → Reps K Mu al H xs ds → SeqR K Mu al nb H (.ref a) ds
  | tuple {a : Addr} {xs : List V} {ds : List D} : H a = some (.tup xs) → ¬ Mu a → Reps K Mu al H xs ds → SeqR K Mu al nb H (.ref a) ds
  | scr {a : Addr} {ns : List Int} : Rd H a (.lst (ns.map V.int)) → ¬ Mu a → SeqR K Mu al nb H (.ref a) (ns.map .int)
  | scrK {a : Addr} {ns : List Int} : SqL K (fun _ => none) a (ns.map V.int) → SeqR K Mu al nb H (.ref a) (ns.map .int)
theorem seqV_ok {K : PySem.W.Frag} {Mu : Addr → Prop} {al : List Addr} {S : List SO} {H : Hp} {v : V} {d : D} {b : Bool} {ds : List D} (hs : StR K ca Mu al S H) (r : RepB K Mu al H v d) (hb : b = false → Rep K Mu al H v d) (h : seqV d = some ds) : SeqR K Mu al (!b) H v ds := by
  unfold seqV at h
  split at h
  · cases h
    cases b with
    | false =>
      cases hb rfl with
      | list h1 h2 h3 => exact .list h1 (fun _ => h2) (fun z => h2 (hs.mu _ z)) h3
    | true =>
      rcases r with r | ⟨a, xs, es, rfl, e, h1, h2, h3⟩
      · cases r with
        | list h1 h2 h3 => exact .list h1 (fun z => by cases z) (fun z => h2 (hs.mu _ z)) h3
      · cases e
        exact .list h1 (fun z => by cases z) h2 h3
  · cases h
    obtain ⟨a, xs, rfl, h1, h2, h3⟩ := r.tuple
    exact .tuple h1 h2 h3
  · cases h
    cases r.rep (fun _ z => by cases z) with
    | scr h1 h2 => exact .scr h1 h2
    | scrK h1 => exact .scrK h1
  · cases h
theorem sqK {K : PySem.W.Frag} {H : Hp} {a : Addr} {xs : List V} (h : SqL K (fun _ => none) a xs) : SqL K H a xs := by
  rcases h with (h | ⟨o, h⟩) | h
  · cases h
  · cases h
  · exact .inr h
theorem SeqR.ex {K : PySem.W.Frag} {Mu : Addr → Prop} {al : List Addr} {nb : Bool} {H : Hp} {v : V} {ds : List D} (r : SeqR K Mu al nb H v ds) : ∃ a, v = .ref a ∧ ((∃ xs, SqL K H a xs) ∨ (∃ xs, SqT K H a xs)) := by
  cases r with
  | list h1 _ _ _ => exact ⟨_, rfl, .inl ⟨_, SqL.of h1⟩⟩
  | tuple h1 _ _ => exact ⟨_, rfl, .inr ⟨_, SqT.of h1⟩⟩
  | scr h1 _ => exact ⟨_, rfl, .inl ⟨_, .inl h1⟩⟩
  | scrK h1 => exact ⟨_, rfl, .inl ⟨_, sqK h1⟩⟩
/-- a list's walk, a tuple's walk -/
theorem SeqR.walk {K : PySem.W.Frag} {Mu : Addr → Prop} {al : List Addr} {nb : Bool} {H : Hp} {v : V} {ds : List D} (hmu : ∀ a, a ∈ al → Mu a) (r : SeqR K Mu al nb H v ds) :
    ∃ a xs, v = .ref a ∧ xs.length = ds.length ∧ ((SqL K H a xs ∧ (∀ H2, (nb = true → StM Mu H H2) → (nb = false → Ext al H H2) → SqL K H2 a xs)) ∨ (SqT K H a xs ∧ (∀ H2, (nb = true → StM Mu H H2) → (nb = false → Ext al H H2) → SqT K H2 a xs))) ∧
      ∀ (i : Nat) (x : V) (d : D) (H2 : Hp) (Mu2 : Addr → Prop) (al2 : List Addr), ds[i]? = some d → xs[i]? = some x → Goes K Mu Mu2 al al2 H H2 → Rep K Mu2 al2 H2 x d := by
  have st : ∀ {a : Addr} {o : HO} {H2 : Hp}, NT o → H a = some o → (nb = true → ¬ Mu a) → a ∉ al → (nb = true → StM Mu H H2) → (nb = false → Ext al H H2) → H2 a = some o := fun {a o H2} nt h n1 n2 e1 e2 => by
    cases nb with
    | true => exact e1 rfl a o (n1 rfl) h nt
    | false => exact e2 rfl a o n2 h nt
  have it : ∀ {xs : List V}, Reps K Mu al H xs ds → ∀ (i : Nat) (x : V) (d : D) (H2 : Hp) (Mu2 : Addr → Prop) (al2 : List Addr), ds[i]? = some d → xs[i]? = some x → Goes K Mu Mu2 al al2 H H2 → Rep K Mu2 al2 H2 x d := fun {xs} r i x d H2 Mu2 al2 h1 h2 g => by
    obtain ⟨v, h3, h4⟩ := r.get h1
    rw [h2] at h3
    cases h3
    exact h4.go g
  cases r with
  | list h1 h2 h3 h4 => exact ⟨_, _, rfl, h4.length, .inl ⟨SqL.of h1, fun H2 e1 e2 => SqL.of (st nt_lst h1 h2 h3 e1 e2)⟩, it h4⟩
  | tuple h1 h2 h3 => exact ⟨_, _, rfl, h3.length, .inr ⟨SqT.of h1, fun H2 e1 e2 => SqT.of (st nt_tup h1 (fun _ => h2) (fun z => h2 (hmu _ z)) e1 e2)⟩, it h3⟩
  | scr h1 h2 =>
    rename_i a ns
    refine ⟨a, ns.map V.int, rfl, by simp, .inl ⟨.inl h1, fun H2 e1 e2 => ?_⟩, fun i x d H2 Mu2 al2 h3 h4 g => ?_⟩
    · rcases h1 with h1 | ⟨o, h1⟩
      · exact .inl (.inl (st nt_lst h1 (fun _ => h2) (fun z => h2 (hmu _ z)) e1 e2))
      · exact .inl (.inr ⟨o, st nt_frz h1 (fun _ => h2) (fun z => h2 (hmu _ z)) e1 e2⟩)
    · rw [List.getElem?_map] at h3 h4
      cases q : ns[i]? with
      | none => rw [q] at h3; cases h3
      | some z => rw [q] at h3 h4; cases h3; cases h4; exact .int _
  | scrK h1 =>
    rename_i a ns
    refine ⟨a, ns.map V.int, rfl, by simp, .inl ⟨sqK h1, fun H2 e1 e2 => sqK h1⟩, fun i x d H2 Mu2 al2 h3 h4 g => ?_⟩
    rw [List.getElem?_map] at h3 h4
    cases q : ns[i]? with
    | none => rw [q] at h3; cases h3
    | some z => rw [q] at h3 h4; cases h3; cases h4; exact .int _
theorem si_seq {tg l : Expr} {c : CE} (h : SE X ca W L l c) : SI X ca W L tg l (.seq c) := by
  refine imI (pi_seq (pe_len h)) fun σ H R h => ?_
  obtain ⟨Mu, al, S, r, he, hs, hg⟩ := h
  have hg : Goal X.K ca L.pu _ Mu al S H (RIt X.K (!c.isBor)) ((ev L c r >>= fun x => ofOpt (seqV x.d)) S) R := hg
  refine ⟨Mu, al, S, r, he, hs, Goal.seq mono_it hg fun o1 S1 al1 v1 H1 p1 r1 g1 lo => ?_⟩
  cases q : seqV o1.d with
  | none => rw [q] at g1; exact g1.elim
  | some ds =>
    rw [q] at g1
    have sr := seqV_ok (b := c.isBor) p1.st (r1.repB p1.st) (fun e => by rw [e] at r1; exact r1.rep p1.st) q
    obtain ⟨a, xs, rfl, hl, hw, hi⟩ := sr.walk p1.st.mu
    have g1 : Goal X.K ca L.pu _ _ al1 S1 H1 (RIt X.K (!c.isBor)) (.ok ds S1) R := g1
    have fin : ∀ {J : It} {G : Hp → Prop}, Walk J xs.length G (YAt xs) → (∀ H2, ((!c.isBor) = true → StM (MuA Mu al1) H1 H2) → ((!c.isBor) = false → Ext al1 H1 H2) → G H2) → R J H1 := fun {J G} w hG => by
      refine Goal.ok g1 (Post.refl p1.st) ⟨by rw [← hl]; exact lo a xs (hw.imp (·.1) (·.1)), G, YAt xs, by rw [← hl]; exact w, ?_, ?_⟩
      · rw [muA_eq p1.st.mu]
        exact hG
      · intro i x d H2 H3 Mu2 al2 hd g _ y
        rw [muA_eq p1.st.mu] at g
        obtain ⟨e, y⟩ := y
        subst e
        exact ⟨fun _ _ h => h, hi i x d _ Mu2 al2 hd y g⟩
    rcases hw with ⟨h1, h2⟩ | ⟨h1, h2⟩
    · exact ⟨a, rfl, .inl ⟨⟨xs, h1⟩, fin walk_list h2⟩⟩
    · exact ⟨a, rfl, .inr ⟨⟨xs, h1⟩, fin walk_tup h2⟩⟩
/-- new pairs -/
theorem pair_yields {K : PySem.W.Frag} {Mu2 : Addr → Prop} {al2 : List Addr} {H2 H3 : Hp} {f g : Nat → Option V} {i : Nat} {v : V} {d e : D} (hmu : ∀ a, Mu2 a → ∃ o, H2 a = some o) (y : YPair f g i H2 v H3) (h1 : ∀ x, f i = some x → Rep K Mu2 al2 H2 x d) (h2 : ∀ x, g i = some x → Rep K Mu2 al2 H2 x e) :
    Same H2 H3 ∧ Rep K Mu2 al2 H3 v (.tuple [d, e]) := by
  obtain ⟨T, x, z, rfl, hT, rfl, hx, hz⟩ := y
  have go : Goes K Mu2 Mu2 al2 al2 H2 (upd H2 T (.tup [x, z])) := ⟨fun a o _ e _ => same_upd hT a o e, fun _ _ h _ _ => h, fun _ _ h => h⟩
  refine ⟨same_upd hT, .tuple upd_same (fun m => ?_) (.cons ((h1 x hx).go go) (.cons ((h2 z hz).go go) .nil))⟩
  obtain ⟨o, q⟩ := hmu T m
  rw [hT] at q
  cases q
theorem zipV_get {xs ys : List D} {i : Nat} {d : D} (h : (zipV xs ys)[i]? = some d) : ∃ a b, d = .tuple [a, b] ∧ xs[i]? = some a ∧ ys[i]? = some b := by
  unfold zipV at h
  rw [List.getElem?_map] at h
  cases q : (xs.zip ys)[i]? with
  | none => rw [q] at h; cases h
  | some z =>
    rw [q] at h
    cases h
    obtain ⟨h1, h2⟩ := List.getElem?_zip_eq_some.mp q
    exact ⟨z.1, z.2, rfl, h1, h2⟩
theorem enumV_get {xs : List D} {i : Nat} {d : D} (h : (enumV xs)[i]? = some d) : ∃ a, d = .tuple [.int (i : Nat), a] ∧ xs[i]? = some a := by
  unfold enumV at h
  rw [List.getElem?_map, List.getElem?_zipIdx] at h
  cases q : xs[i]? with
  | none => rw [q] at h; cases h
  | some z =>
    rw [q] at h
    cases h
    exact ⟨z, by simp, rfl⟩
theorem si_zip {e1 e2 : Expr} {c1 c2 : CE} {elts : List Expr} {kk : Nat} {tpos zp : Pos} (hg : Gl X "zip") (hm : X.mg "zip" = none) (p1 : plainE e1 = true) (p2 : plainE e2 = true) (hb1 : c1.isBor = false) (hb2 : c2.isBor = false) (h1 : SE X ca W L e1 c1) (h2 : SE X ca W L e2 c2) : SI X ca W L (.Tuple elts kk tpos) (.Call (.Name "zip" zp) [e1, e2] [] pos) (.zip c1 c2) := by
  refine imI (RZ.pi_zipA hg hm (pa_cons h1 (pa_cons (pe_len h2) pa_nil (star1 p2)) (star1 p1)) (star1 p1) (starN (by rw [List.all_cons, p2]; rfl))) fun σ H R h => ?_
  obtain ⟨Mu, al, S, r, he, hs, hg⟩ := h
  have hnb : (CI.zip c1 c2).nb = true := by simp [CI.nb, hb1, hb2]
  rw [hnb] at hg
  have hg : Goal X.K ca L.pu _ Mu al S H (RIt X.K true) ((ev L c1 r >>= fun x => ev L c2 r >>= fun y => ofOpt (zip2V x.d y.d)) S) R := hg
  refine ⟨Mu, al, S, r, he, hs, Goal.seq mono_it hg fun o1 S1 al1 v1 H1 p1 r1 g1 => ?_⟩
  refine ⟨_, al1, S1, r, he.post hs p1, p1.st, Goal.seq mono_it g1 fun o2 S2 al2 v2 H2 p2 r2 g2 lo => ?_⟩
  rw [hb1] at r1
  rw [hb2] at r2
  have q1 := (r1.rep p1.st).go (p2.goes p1.st)
  have q2 := r2.rep p2.st
  generalize o1.d = d1 at g2 q1
  generalize o2.d = d2 at g2 q2
  cases q : zip2V d1 d2 with
  | none => rw [q] at g2; exact g2.elim
  | some ds =>
    rw [q] at g2
    have g2 : Goal X.K ca L.pu _ _ al2 S2 H2 (RIt X.K true) (.ok ds S2) R := g2
    have fin : ∀ {J : It} {G : Hp → Prop} {xs ys : List V} {as bs : List D}, Reps X.K (MuA (MuA Mu al1) al2) al2 H2 xs as → Reps X.K (MuA (MuA Mu al1) al2) al2 H2 ys bs → ds = zipV as bs → Walk J (min xs.length ys.length) G (YPair (fun i => xs[i]?) (fun i => ys[i]?)) → xs.length ≤ sizeLine →
        (∀ H3, StM (MuA (MuA Mu al1) al2) H2 H3 → G H3) → R J H2 := fun {J G xs ys as bs} ra rb ed w hxl hG => by
      have hlen : ds.length = min xs.length ys.length := by
        rw [ed]
        unfold zipV
        rw [List.length_map, List.length_zip, ra.length, rb.length]
      refine Goal.ok g2 (Post.refl p2.st) ⟨by rw [hlen]; exact Nat.le_trans (Nat.min_le_left _ _) hxl, G, _, by rw [hlen]; exact w, fun H3 e _ => ?_, ?_⟩
      · have e := e rfl
        rw [muA_eq p2.st.mu] at e
        exact hG H3 e
      · intro i x d H3 H4 Mu2 al3 hd g hmu y
        rw [muA_eq p2.st.mu] at g
        rw [ed] at hd
        obtain ⟨a, b, rfl, ha, hb⟩ := zipV_get hd
        refine pair_yields hmu y (fun x hx => ?_) fun x hx => ?_
        · obtain ⟨v, h3, h4⟩ := ra.get ha
          rw [hx] at h3
          cases h3
          exact h4.go g
        · obtain ⟨v, h3, h4⟩ := rb.get hb
          rw [hx] at h3
          cases h3
          exact h4.go g
    unfold zip2V at q
    split at q
    · cases q
      cases q1 with
      | list a1 a2 a3 =>
        cases q2 with
        | list b1 b2 b3 => exact ⟨_, _, _, _, rfl, .inl ⟨SqL.of a1, SqL.of b1, fin a3 b3 rfl (walk_zip rfl) (lo _ _ (.inl (SqL.of a1))) fun H3 e => ⟨SqL.of (e _ _ a2 a1 nt_lst), SqL.of (e _ _ b2 b1 nt_lst)⟩⟩⟩
    · cases q
      cases q1 with
      | tuple a1 a2 a3 =>
        cases q2 with
        | tuple b1 b2 b3 =>
          refine ⟨_, _, _, _, rfl, .inr ⟨SqT.of a1, SqT.of b1, fin (G := fun H => SqT X.K H _ _ ∧ SqT X.K H _ _) a3 b3 rfl ?_ (lo _ _ (.inr (SqT.of a1))) fun H3 e => ⟨SqT.of (e _ _ a2 a1 nt_tup), SqT.of (e _ _ b2 b1 nt_tup)⟩⟩⟩
          refine ⟨fun i _ hi q => ?_, fun _ q => ⟨_, _, q.1, q.2, by omega⟩, fun i H v H' _ q y => ?_⟩
          · have h1 : i < _ := Nat.lt_of_lt_of_le hi (Nat.min_le_left _ _)
            have h2 : i < _ := Nat.lt_of_lt_of_le hi (Nat.min_le_right _ _)
            exact ⟨_, _, _, _, q.1, q.2, List.getElem?_eq_getElem h1, List.getElem?_eq_getElem h2⟩
          · obtain ⟨T, x, z, h1, h2, h3, h4, h5⟩ := y
            exact ⟨T, x, z, h1, h2, h3, h4 _ q.1, h5 _ q.2⟩
    · cases q
theorem si_enum {e1 : Expr} {c1 : CE} {elts : List Expr} {kk : Nat} {tpos zp : Pos} (hg : Gl X "enumerate") (hm : X.mg "enumerate" = none) (p1 : plainE e1 = true) (h1 : SE X ca W L e1 c1) : SI X ca W L (.Tuple elts kk tpos) (.Call (.Name "enumerate" zp) [e1] [] pos) (.enum c1) := by
  refine imI (PbEn.pi_enumA hg hm (pa_cons (pe_len h1) pa_nil (star1 p1)) (star1 p1)) fun σ H R h => ?_
  obtain ⟨Mu, al, S, r, he, hs, hg⟩ := h
  have hg : Goal X.K ca L.pu _ Mu al S H (RIt X.K (!c1.isBor)) ((ev L c1 r >>= fun x => ofOpt (seqV x.d) >>= fun xs => pure (enumV xs)) S) R := hg
  refine ⟨Mu, al, S, r, he, hs, Goal.seq mono_it hg fun o1 S1 al1 v1 H1 p1 r1 g1 lo => ?_⟩
  cases q : seqV o1.d with
  | none => rw [q] at g1; exact g1.elim
  | some ds =>
    rw [q] at g1
    have sr := seqV_ok (b := c1.isBor) p1.st (r1.repB p1.st) (fun e => by rw [e] at r1; exact r1.rep p1.st) q
    obtain ⟨a, xs, rfl, hl, hw, hi⟩ := sr.walk p1.st.mu
    have g1 : Goal X.K ca L.pu _ _ al1 S1 H1 (RIt X.K (!c1.isBor)) (.ok (enumV ds) S1) R := g1
    have hlen : (enumV ds).length = xs.length := by
      unfold enumV
      rw [List.length_map, List.length_zipIdx, hl]
    have fin : ∀ {J : It} {G : Hp → Prop}, Walk J xs.length G (YPair (fun i => some (.int (i : Nat))) (fun i => xs[i]?)) → (∀ H2, ((!c1.isBor) = true → StM (MuA Mu al1) H1 H2) → ((!c1.isBor) = false → Ext al1 H1 H2) → G H2) → R J H1 := fun {J G} w hG => by
      refine Goal.ok g1 (Post.refl p1.st) ⟨by rw [hlen]; exact lo a xs (hw.imp (·.1) (·.1)), G, _, by rw [hlen]; exact w, ?_, ?_⟩
      · rw [muA_eq p1.st.mu]
        exact hG
      · intro i x d H2 H3 Mu2 al2 hd g hmu y
        rw [muA_eq p1.st.mu] at g
        obtain ⟨e, he1, he2⟩ := enumV_get hd
        subst he1
        refine pair_yields hmu y (fun x hx => ?_) fun x hx => hi i x e _ Mu2 al2 he2 hx g
        cases hx
        exact .int _
    rcases hw with ⟨h1, h2⟩ | ⟨h1, h2⟩
    · exact ⟨a, xs, rfl, .inl ⟨h1, fin walk_enum h2⟩⟩
    · exact ⟨a, xs, rfl, .inr ⟨h1, fin PbEn.walk_enumT h2⟩⟩
/-! ### ranges -/
theorem rng_it {K : PySem.W.Frag} {Mu : Addr → Prop} {al : List Addr} {H : Hp} {lo : Int} {n : Nat} {nb : Bool} (hn : n ≤ 16777216) : ItOk K Mu al nb H (Itr lo n) ((List.range n).map fun (k : Nat) => D.int (lo + k)) := by
  have hl : ((List.range n).map fun (k : Nat) => D.int (lo + k)).length = n := by rw [List.length_map, List.length_range]
  refine ⟨by rw [hl, sizeLine_eq]; exact hn, fun _ => True, _, by rw [hl]; exact walk_range, fun _ _ _ => trivial, ?_⟩
  intro i x d H2 H3 Mu2 al2 hd _ _ y
  obtain ⟨e1, e2⟩ := y
  subst e1 e2
  rw [List.getElem?_map] at hd
  cases q : (List.range n)[i]? with
  | none => rw [q] at hd; cases hd
  | some k =>
    rw [q] at hd
    cases hd
    obtain ⟨h1, h2⟩ := List.getElem?_eq_some_iff.mp q
    rw [List.getElem_range] at h2
    subst h2
    exact ⟨fun _ _ h => h, .int _⟩
theorem si_rng1 {a : Expr} {c : CE} {tg : Expr} {rp : Pos} (hg : Gl X "range") (hm : X.mg "range" = none) (p1 : plainE a = true) (h : SE X ca W L a c) : SI X ca W L tg (.Call (.Name "range" rp) [a] [] pos) (.rng (.cons c .nil)) := by
  refine imI (pi_range1 hg hm (pa_cons h pa_nil (star1 p1)) (star1 p1)) fun σ H R h => ?_
  obtain ⟨Mu, al, S, r, he, hs, hg⟩ := h
  have e : evI L (.rng (.cons c .nil)) r = (ev L c r >>= fun x => ofOpt (rngV [x.d])) := by
    show ((ev L c r >>= fun x => (pure [] >>= fun xs => pure (x.d :: xs))) >>= fun ds => ofOpt (rngV ds)) = _
    rw [M.bind_assoc]
    rfl
  rw [e] at hg
  refine ⟨Mu, al, S, r, he, hs, Goal.seq mono_it hg fun o1 S1 al1 v1 H1 p1 r1 g1 => ?_⟩
  have r1 := r1.repB p1.st
  generalize o1.d = d1 at g1 r1
  cases d1 with
  | int j =>
    cases r1.int
    have g1 : Goal X.K ca L.pu _ _ al1 S1 H1 (RIt X.K true) ((ofOpt (if -(2 ^ 62) ≤ j ∧ j ≤ 16777216 then some ((List.range j.toNat).map fun (k : Nat) => D.int (0 + k)) else none) : M (List D)) S1) R := g1
    split at g1
    · rename_i hj
      refine ⟨j, rfl, hj.1, by omega, ?_⟩
      exact Goal.ok (show Goal X.K ca L.pu _ _ al1 S1 H1 (RIt X.K true) (.ok _ S1) R from g1) (Post.refl p1.st) (rng_it (by omega))
    · exact g1.elim
  | _ => exact g1.elim
theorem si_rng2 {a b : Expr} {c d : CE} {tg : Expr} {rp : Pos} (hg : Gl X "range") (hm : X.mg "range" = none) (p1 : plainE a = true) (p2 : plainE b = true) (h : SE X ca W L a c) (h2 : SE X ca W L b d) : SI X ca W L tg (.Call (.Name "range" rp) [a, b] [] pos) (.rng (.cons c (.cons d .nil))) := by
  refine imI (pi_range2 hg hm (pa_cons h (pa_cons h2 pa_nil (star1 p2)) (star1 p1)) (by rw [star1 p1, star1 p2]; rfl) (star1 p2)) fun σ H R h => ?_
  obtain ⟨Mu, al, S, r, he, hs, hg⟩ := h
  have e : evI L (.rng (.cons c (.cons d .nil))) r = (ev L c r >>= fun x => ev L d r >>= fun y => ofOpt (rngV [x.d, y.d])) := by
    show ((ev L c r >>= fun x => ((ev L d r >>= fun y => (pure [] >>= fun xs => pure (y.d :: xs))) >>= fun xs => pure (x.d :: xs))) >>= fun ds => ofOpt (rngV ds)) = _
    rw [M.bind_assoc]
    congr 1
    funext x
    rw [M.bind_assoc, M.bind_assoc]
    rfl
  rw [e] at hg
  refine ⟨Mu, al, S, r, he, hs, Goal.seq mono_it hg fun o1 S1 al1 v1 H1 p1 r1 g1 => ?_⟩
  refine ⟨_, al1, S1, r, he.post hs p1, p1.st, Goal.seq mono_it g1 fun o2 S2 al2 v2 H2 p2 r2 g2 => ?_⟩
  have r1 := (r1.repB p1.st).post p1.st p2
  have r2 := r2.repB p2.st
  generalize o1.d = d1 at g2 r1
  generalize o2.d = d2 at g2 r2
  cases d1 with
  | int i =>
    cases d2 with
    | int j =>
      cases r1.int
      cases r2.int
      have g2 : Goal X.K ca L.pu _ _ al2 S2 H2 (RIt X.K true) ((ofOpt (if (-(2 ^ 62) ≤ i ∧ i < 2 ^ 62) ∧ (-(2 ^ 62) ≤ j ∧ j < 2 ^ 62) ∧ j - i ≤ 16777216 then some ((List.range (j - i).toNat).map fun (k : Nat) => D.int (i + k)) else none) : M (List D)) S2) R := g2
      split at g2
      · rename_i hj
        refine ⟨i, j, rfl, by omega, ?_⟩
        exact Goal.ok (show Goal X.K ca L.pu _ _ al2 S2 H2 (RIt X.K true) (.ok _ S2) R from g2) (Post.refl p2.st) (rng_it (by omega))
      · exact g2.elim
    | _ => exact g2.elim
  | _ => exact g2.elim
end
end Pb
end

section
set_option Elab.async false
set_option linter.all false
set_option maxRecDepth 100000
set_option maxHeartbeats 1000000
/-! Targets, comprehensions. -/
namespace Pb
open PySem PySem.Spec PyProof.Rows L2
mutual
def Tg.ixs : Tg → List Nat
  | .var i => [i]
  | .tup ts => ts.ixs
def Tgs.ixs : Tgs → List Nat
  | .nil => []
  | .cons t ts => t.ixs ++ ts.ixs
end
theorem EnvR.setV {K : PySem.W.Frag} {Mu : Addr → Prop} {al : List Addr} {r : Rho} {σ : L2.St} {H : Hp} {v : V} {d : D} (i : Nat) (e : EnvR K Mu al r σ H) (h : Rep K Mu al H v d) : EnvR K Mu al (r.set i (.v d)) (σ.set i (some v)) H where
  len := by rw [List.length_set, List.length_set]; exact e.len
  vl := fun j d' hj => by
    rw [List.getElem?_set] at hj
    split at hj
    · rename_i hij
      subst hij
      split at hj
      · rename_i hl
        cases hj
        exact ⟨v, by rw [List.getElem?_set_self (by rw [← e.len]; exact hl)], h⟩
      · cases hj
    · rename_i hij
      obtain ⟨v', h1, h2⟩ := e.vl j d' hj
      exact ⟨v', by rw [List.getElem?_set_ne hij]; exact h1, h2⟩
  ow := fun j ds hj => by
    rw [List.getElem?_set] at hj
    split at hj
    · split at hj <;> cases hj
    · rename_i hij
      obtain ⟨a, xs, h1, h2⟩ := e.ow j ds hj
      exact ⟨a, xs, by rw [List.getElem?_set_ne hij]; exact h1, h2⟩
  ap := fun j k ds es a hjk hj hk h1 => by
    rw [List.getElem?_set] at hj hk
    split at hj
    · split at hj <;> cases hj
    · split at hk
      · split at hk <;> cases hk
      · rename_i n1 n2
        rw [List.getElem?_set_ne n1] at h1
        rw [List.getElem?_set_ne n2]
        exact e.ap j k ds es a hjk hj hk h1
theorem wipe_set {σ : L2.St} {i : Nat} {x : Option V} : ∀ {vs : List Nat}, i ∈ vs → wipe (σ.set i x) vs = wipe σ vs
  | v :: vs, h => by
    by_cases hv : i ∈ vs
    · show (wipe (σ.set i x) vs).set v none = (wipe σ vs).set v none
      rw [wipe_set hv]
    · have hi : i = v := by
        rcases List.mem_cons.mp h with e | e
        · exact e
        · exact absurd e hv
      subst hi
      show (wipe (σ.set i x) vs).set i none = (wipe σ vs).set i none
      apply List.ext_getElem?
      intro j
      by_cases hj : j = i
      · subst hj
        rw [List.getElem?_set, List.getElem?_set, wipe_length, wipe_length, List.length_set, if_pos rfl, if_pos rfl]
      · rw [List.getElem?_set_ne (Ne.symm hj), List.getElem?_set_ne (Ne.symm hj)]
        by_cases hm : j ∈ vs
        · have none_at : ∀ (τ : L2.St) (ws : List Nat), j ∈ ws → (wipe τ ws)[j]? = if j < τ.length then some none else none := by
            intro τ ws
            induction ws with
            | nil => intro h; cases h
            | cons w ws ih =>
              intro h
              show ((wipe τ ws).set w none)[j]? = _
              rw [List.getElem?_set]
              split
              · rename_i hw
                rw [wipe_length, hw]
              · rename_i hw
                rcases List.mem_cons.mp h with e | e
                · exact absurd e.symm hw
                · exact ih e
          rw [none_at _ vs hm, none_at _ vs hm, List.length_set]
        · rw [wipe_out hm, wipe_out hm, List.getElem?_set_ne (Ne.symm hj)]
theorem wipe_wipe {σ : L2.St} : ∀ {vs ws : List Nat}, (∀ v ∈ vs, v ∈ ws) → wipe (wipe σ vs) ws = wipe σ ws
  | [], _, _ => rfl
  | v :: vs, ws, h => by
    show wipe ((wipe σ vs).set v none) ws = _
    rw [wipe_set (h v (by simp)), wipe_wipe fun z hz => h z (by simp [hz])]
theorem EnvR.wipe {K : PySem.W.Frag} {Mu : Addr → Prop} {al : List Addr} {r : Rho} {σ : L2.St} {H : Hp} : ∀ (vs : List Nat), EnvR K Mu al r σ H → EnvR K Mu al (wipeR r vs) (L2.wipe σ vs) H
  | [], e => e
  | v :: vs, e => by
    have e := EnvR.wipe vs e
    show EnvR K Mu al ((wipeR r vs).set v .un) ((L2.wipe σ vs).set v none) H
    refine ⟨by rw [List.length_set, List.length_set]; exact e.len, fun j d' hj => ?_, fun j ds hj => ?_, fun j k ds es a hjk hj hk h1 => ?_⟩
    · rw [List.getElem?_set] at hj
      split at hj
      · split at hj <;> cases hj
      · rename_i hij
        obtain ⟨v', h1, h2⟩ := e.vl j d' hj
        exact ⟨v', by rw [List.getElem?_set_ne hij]; exact h1, h2⟩
    · rw [List.getElem?_set] at hj
      split at hj
      · split at hj <;> cases hj
      · rename_i hij
        obtain ⟨a, xs, h1, h2⟩ := e.ow j ds hj
        exact ⟨a, xs, by rw [List.getElem?_set_ne hij]; exact h1, h2⟩
    · rw [List.getElem?_set] at hj hk
      split at hj
      · split at hj <;> cases hj
      · split at hk
        · split at hk <;> cases hk
        · rename_i n1 n2
          rw [List.getElem?_set_ne n1] at h1
          rw [List.getElem?_set_ne n2]
          exact e.ap j k ds es a hjk hj hk h1
/-! ### targets -/
def tGt (K : PySem.W.Frag) (t : Tg) : TG := fun v σ H Q => ∃ Mu al d r r', EnvR K Mu al r σ H ∧ Rep K Mu al H v d ∧ bindTg t d r = some r' ∧ ∀ σ', EnvR K Mu al r' σ' H → (∀ vs, (∀ i ∈ t.ixs, i ∈ vs) → L2.wipe σ' vs = L2.wipe σ vs) → Q σ' H
def tGs (K : PySem.W.Frag) (t : Tgs) : TGs := fun vs σ H Q => ∃ Mu al ds r r', EnvR K Mu al r σ H ∧ Reps K Mu al H vs ds ∧ bindTgs t ds r = some r' ∧ ∀ σ', EnvR K Mu al r' σ' H → (∀ vs, (∀ i ∈ t.ixs, i ∈ vs) → L2.wipe σ' vs = L2.wipe σ vs) → Q σ' H
theorem imG {X : Cx} {e : Expr} {t t' : TG} (h : PG X e t) (q : ∀ v σ H Q, t' v σ H Q → t v σ H Q) : PG X e t' := ⟨fun pins s σ H v u Q I r hw => h.run pins s σ H v u Q I r (q _ _ _ _ hw)⟩
theorem imGs {X : Cx} {e : List Expr} {t t' : TGs} (h : PGs X e t) (q : ∀ v σ H Q, t' v σ H Q → t v σ H Q) : PGs X e t' := ⟨fun pins s σ H v u Q I r hw => h.run pins s σ H v u Q I r (q _ _ _ _ hw)⟩
section
variable {X : Cx} {ca : Ca} {W : WX} {pu : Bool} {L : Lk} {pos : Pos}
theorem sg_var {i : Nat} {x : Str} (hN : X.N.Nodup) (hi : X.N[i]? = some x) (hx : Loc X.env.scope x) (hf : X.fn x = true ∨ X.env.scope.names.lookup x = some .local) : PG X (.Name x pos) (tGt X.K (.var i)) := by
  refine imG (pg_name hN hi hx hf) fun v σ H Q h => ?_
  obtain ⟨Mu, al, d, r, r', he, hr, hb, k⟩ := h
  cases hb
  exact k _ (he.setV i hr) fun vs hv => wipe_set (hv i (by simp [Tg.ixs]))
theorem sgs_nil : PGs X [] (tGs X.K .nil) := by
  refine imGs pgs_nil fun v σ H Q h => ?_
  obtain ⟨Mu, al, ds, r, r', he, hr, hb, k⟩ := h
  cases hr with
  | nil =>
    cases hb
    exact ⟨rfl, k _ he fun _ _ => rfl⟩
  | cons _ _ => cases hb
theorem sgs_cons {e : Expr} {es : List Expr} {t : Tg} {ts : Tgs} (h : PG X e (tGt X.K t)) (hs : PGs X es (tGs X.K ts)) (hst : (assignEach (e :: es) X.env).map (·.2) = assign e X.env :: (assignEach es X.env).map (·.2)) : PGs X (e :: es) (tGs X.K (.cons t ts)) := by
  refine imGs (pgs_cons h hs hst) fun v σ H Q h => ?_
  obtain ⟨Mu, al, ds, r, r', he, hr, hb, k⟩ := h
  cases hr with
  | nil => cases hb
  | cons h1 h2 =>
    rename_i v0 vs0 d0 ds0
    have hb : (match bindTg t d0 r with | some r' => bindTgs ts ds0 r' | none => none) = some r' := hb
    cases q : bindTg t d0 r with
    | none => rw [q] at hb; cases hb
    | some r1 =>
      rw [q] at hb
      refine ⟨v0, vs0, rfl, Mu, al, d0, r, r1, he, h1, q, fun σ' e' w' => ?_⟩
      refine ⟨Mu, al, ds0, r1, r', e', h2, hb, fun σ2 e2 w2 => ?_⟩
      refine k σ2 e2 fun vs hv => ?_
      rw [w2 vs fun i hi => hv i (by simp [Tgs.ixs, hi]), w' vs fun i hi => hv i (by simp [Tgs.ixs, hi])]
theorem bindTgs_len : ∀ {ts : Tgs} {ds : List D} {r r' : Rho} {es : List Expr} , bindTgs ts ds r = some r' → True := fun _ => trivial
def Tgs.len : Tgs → Nat
  | .nil => 0
  | .cons _ ts => ts.len + 1
theorem bindTgs_length : ∀ (ts : Tgs) (ds : List D) (r r' : Rho), bindTgs ts ds r = some r' → ds.length = ts.len
  | .nil, [], _, _, _ => rfl
  | .nil, _ :: _, _, _, h => by cases h
  | .cons _ _, [], _, _, h => by cases h
  | .cons t ts, d :: ds, r, r', h => by
    have h : (match bindTg t d r with | some r' => bindTgs ts ds r' | none => none) = some r' := h
    cases q : bindTg t d r with
    | none => rw [q] at h; cases h
    | some r1 =>
      rw [q] at h
      show ds.length + 1 = ts.len + 1
      rw [bindTgs_length ts ds r1 r' h]
theorem sg_tup {es : List Expr} {k : Nat} {ts : Tgs} (hc : X.calm = true) (h : PGs X es (tGs X.K ts)) (hn : (assignEach es X.env).length = ts.len) (hst : (assignEach es X.env).findIdx? (·.1) = none) : PG X (.Tuple es k pos) (tGt X.K (.tup ts)) := by
  refine imG (pg_tup hc h hn hst) fun v σ H Q h => ?_
  obtain ⟨Mu, al, d, r, r', he, hr, hb, k⟩ := h
  cases d with
  | tuple ds =>
    cases hr with
    | tuple h1 h2 h3 => exact ⟨_, _, rfl, SqT.of h1, by rw [h3.length]; exact bindTgs_length ts ds r r' hb, Mu, al, ds, r, r', he, h3, hb, k⟩
  | _ => cases hb
/-! ### the tests of a comprehension -/
abbrev SC (X : Cx) (ca : Ca) (W : WX) (L : Lk) (ifs : List Expr) (cs : CA) : Prop := PTs X ifs (tT X.K ca W L.pu (evT L cs))
theorem imTs {e : List Expr} {t t' : TT} (h : PTs X e t) (q : ∀ σ H Q, t' σ H Q → t σ H Q) : PTs X e t' := ⟨fun pins s σ H Q I hw => h.run pins s σ H Q I (q _ _ _ hw)⟩
theorem sc_nil : SC X ca W L [] .nil := imTs pts_nil fun σ H Q h => by
  obtain ⟨Mu, al, S, r, he, hs, hg⟩ := h
  exact Goal.ok (show Goal X.K ca L.pu _ Mu al S H RBool (.ok true S) Q from hg) (Post.refl hs) rfl
theorem sc_one {e : Expr} {c : CE} (h : ST X ca W L e c) : SC X ca W L [e] (.cons c .nil) := imTs (pts_one h) fun σ H Q h => by
  obtain ⟨Mu, al, S, r, he, hs, hg⟩ := h
  refine ⟨Mu, al, S, r, he, hs, ?_⟩
  have e : evT L (.cons c .nil) r = evB L c r := by
    show (ev L c r >>= fun x => asBool x.d >>= fun b => if b = true then (pure true : M Bool) else pure false) = _
    unfold evB
    congr 1
    funext x
    have : (fun b : Bool => if b = true then (pure true : M Bool) else pure false) = pure := by
      funext b
      cases b <;> rfl
    rw [this]
    exact M.bind_pure _
  rw [e] at hg
  exact hg
end
end Pb
end

section
set_option Elab.async false
set_option linter.all false
set_option maxRecDepth 100000
set_option maxHeartbeats 1000000
/-! Comprehensions. -/
namespace Pb
open PySem PySem.Spec PyProof.Rows L2
theorem M.bind_ok {α β : Type} {m : M α} {k : α → M β} {S S2 : List SO} {b : β} (h : (m >>= k) S = .ok b S2) : ∃ a S1, m S = .ok a S1 ∧ k a S1 = .ok b S2 := by
  have h : M.bind m k S = .ok b S2 := h
  unfold M.bind at h
  cases q : m S with
  | ok a S1 => rw [q] at h; exact ⟨a, S1, rfl, h⟩
  | exc x S1 => rw [q] at h; cases h
  | bad => rw [q] at h; cases h
/-- at the i-th turn -/
structure CInv (K : PySem.W.Frag) (ca : Ca) (pu : Bool) (Mu : Addr → Prop) (al : List Addr) (S : List SO) (H0 : Hp) (D0 : Addr) (H : Hp) (al' : List Addr) (S' : List SO) (acc : List V) (da : List D) : Prop where
  ext : Ext al H0 H
  app : ∃ new, al' = al ++ new ∧ ∀ a ∈ new, Fre H0 a
  st : StR K ca (fun a => MuA Mu al' a ∨ a = D0) al' S' H
  nD : D0 ∉ al'
  free : ∀ q, Fre H q → Fre H0 q
  pur : pu = true → al' = al ∧ S' = S ∧ SameN H0 H
  lst : H D0 = some (.lst acc)
  rp : Reps K (fun a => MuA Mu al' a ∨ a = D0) al' H acc da
section
variable {K : PySem.W.Frag} {ca : Ca} {pu : Bool} {Mu : Addr → Prop} {al al' al2 : List Addr} {S S' S2 : List SO} {H0 H H2 : Hp} {D0 : Addr} {f : D → M (Option D)} {items dsF da dr dr2 : List D} {SF : List SO} {i : Nat} {acc : List V}
theorem CInv.goes (hs : StR K ca Mu al S H0) (h0 : H0 D0 = none) (c : CInv K ca pu Mu al S H0 D0 H al' S' acc da) : Goes K Mu (fun a => MuA Mu al' a ∨ a = D0) al al' H0 H where
  st := fun a o n e => c.ext a o (fun z => n (hs.mu a z)) e
  mu := fun a o n e nt z => by
    rcases z with z | z
    · rcases z with z | z
      · exact n z
      · obtain ⟨new, e1, e2⟩ := c.app
        rw [e1] at z
        rcases List.mem_append.mp z with z | z
        · exact n (hs.mu a z)
        · exact e2 a z o e nt
    · subst z
      rw [h0] at e
      cases e
  al := fun n a e => by
    obtain ⟨new, e1, _⟩ := c.app
    rw [e1, List.getElem?_append_left (List.getElem?_eq_some_iff.mp e).1]
    exact e
theorem CInv.env {r : Rho} {σ : L2.St} (hs : StR K ca Mu al S H0) (h0 : H0 D0 = none) (c : CInv K ca pu Mu al S H0 D0 H al' S' acc da) (e : EnvR K Mu al r σ H0) : EnvR K (fun a => MuA Mu al' a ∨ a = D0) al' r σ H :=
  e.go (c.goes hs h0) c.ext (fun a h => .inl (.inl h)) fun a ha => by
    obtain ⟨new, e1, e2⟩ := c.app
    rw [e1] at ha
    exact (List.mem_append.mp ha).imp id (e2 a)
theorem CInv.notin (c : CInv K ca pu Mu al S H0 D0 H al' S' acc da) (p : Post K ca pu (fun a => MuA Mu al' a ∨ a = D0) al' S' al2 S2 H H2) : D0 ∉ al2 := fun z => by
  obtain ⟨new, e1, e2⟩ := p.app
  rw [e1] at z
  rcases List.mem_append.mp z with z | z
  · exact c.nD z
  · exact e2 D0 z _ c.lst nt_lst
theorem mu_eq {a : Addr} (p : Post K ca pu (fun a => MuA Mu al' a ∨ a = D0) al' S' al2 S2 H H2) : MuA (fun a => MuA Mu al' a ∨ a = D0) al2 = fun a => MuA Mu al2 a ∨ a = D0 := by
  funext b
  refine propext ⟨fun z => ?_, fun z => ?_⟩
  · rcases z with (z | z) | z
    · rcases z with z | z
      · exact .inl (.inl z)
      · exact .inl (.inr (p.sub b z))
    · exact .inr z
    · exact .inl (.inr z)
  · rcases z with (z | z) | z
    · exact .inl (.inl (.inl z))
    · exact .inr z
    · exact .inl (.inr z)
theorem CInv.step (hs : StR K ca Mu al S H0) (h0 : H0 D0 = none) (c : CInv K ca pu Mu al S H0 D0 H al' S' acc da) (p : Post K ca pu (fun a => MuA Mu al' a ∨ a = D0) al' S' al2 S2 H H2) : CInv K ca pu Mu al S H0 D0 H2 al2 S2 acc da := by
  have na : ∀ b o, b ∉ al → H0 b = some o → NT o → b ∉ al' := fun b o n e nt z => by
    obtain ⟨new, e1, e2⟩ := c.app
    rw [e1] at z
    rcases List.mem_append.mp z with z | z
    · exact n z
    · exact e2 b z o e nt
  have st := p.st
  rw [mu_eq (a := D0) p] at st
  have g := p.goes c.st
  rw [mu_eq (a := D0) p] at g
  refine ⟨fun b o n e nt => p.ext b o (na b o n e nt) (c.ext b o n e nt) nt, ?_, st, c.notin p, fun q h => c.free q (p.free q h), ?_, p.ext _ _ c.nD c.lst nt_lst, Reps.go g c.rp⟩
  · obtain ⟨new, e1, e2⟩ := c.app
    obtain ⟨new2, e3, e4⟩ := p.app
    refine ⟨new ++ new2, by rw [e3, e1, List.append_assoc], fun a ha => ?_⟩
    rcases List.mem_append.mp ha with h | h
    · exact e2 a h
    · exact c.free a (e4 a h)
  · intro hp
    obtain ⟨a1, a2, a3⟩ := c.pur hp
    obtain ⟨b1, b2, b3⟩ := p.pur hp
    exact ⟨b1.trans a1, b2.trans a2, a3.trans b3⟩
theorem goes0 (hs : StR K ca Mu al S H0) {xs : List V} (h0 : H0 D0 = none) : Goes K Mu (fun a => MuA Mu al a ∨ a = D0) al al H0 (upd H0 D0 (.lst xs)) :=
  ⟨fun a o _ e _ => same_upd h0 a o e, fun a o m e _ z => by
    rcases z with z | z
    · rw [muA_eq hs.mu] at z; exact m z
    · subst z
      rw [h0] at e
      exact (nomatch e), fun _ _ h => h⟩
theorem CInv.add {y : V} {d : D} (hs : StR K ca Mu al S H0) (h0 : H0 D0 = none) (c : CInv K ca pu Mu al S H0 D0 H al' S' acc da) (r : Rep K (fun a => MuA Mu al' a ∨ a = D0) al' H y d) :
    CInv K ca pu Mu al S H0 D0 (upd H D0 (.lst (acc ++ [y]))) al' S' (acc ++ [y]) (da ++ [d]) := by
  have g : Goes K (fun a => MuA Mu al' a ∨ a = D0) (fun a => MuA Mu al' a ∨ a = D0) al' al' H (upd H D0 (.lst (acc ++ [y]))) := ⟨fun a o n q _ => by
    have : a ≠ D0 := fun z => n (.inr z)
    rw [upd_ne this]
    exact q, fun _ _ h _ _ => h, fun _ _ h => h⟩
  have e0 : ∀ b o, H0 b = some o → b ≠ D0 := fun b o q z => by
    subst z
    rw [h0] at q
    cases q
  refine ⟨fun b o n q nt => by rw [upd_ne (e0 b o q)]; exact c.ext b o n q nt, c.app, ⟨c.st.len, c.st.nd, c.st.mu, fun a m => ?_, fun n o a h1 h2 => ?_, ?_, fun p hp => by
    have q := c.st.xd p hp
    rw [upd_ne (fun z => by
      rw [z, c.lst] at q
      cases q)]
    exact q, fun p hp => (c.st.xr p hp).go g⟩, c.nD, fun q h => ?_, fun hp => ?_, upd_same, (Reps.go g c.rp).append (.cons (r.go g) .nil)⟩
  · by_cases z : a = D0
    · subst z
      rw [upd_same]
      trivial
    · rw [upd_ne z]
      exact c.st.tr a m
  · have q := c.st.ob n o a h1 h2
    cases o with
    | lst ds =>
      obtain ⟨vs, h3, h4⟩ := q
      have na : a ≠ D0 := fun z => c.nD (z ▸ (List.mem_of_getElem? h2))
      exact ⟨vs, by rw [upd_ne na]; exact h3, Reps.go g h4⟩
    | dct _ => exact q
    | ins _ _ => exact q
  · rintro p hp
    obtain ⟨ps, h1, h2, h3⟩ := c.st.tb p hp
    have n1 : p.1 ≠ D0 := fun z => by
      rw [z, c.lst] at h1
      cases h1
    refine ⟨ps, by rw [upd_ne n1]; exact h1, h2, fun pos cv hc => ?_⟩
    obtain ⟨k, h4, h5⟩ := h3 pos cv hc
    refine ⟨k, h4, ?_⟩
    have n2 : k ≠ D0 := fun z => by
      rw [z, c.lst] at h5
      cases h5
    rw [upd_ne n2]
    exact h5
  · by_cases z : q = D0
    · rw [z]
      exact fre_none h0
    · exact c.free q fun o e => h o (by rw [upd_ne z]; exact e)
  · obtain ⟨a1, a2, a3⟩ := c.pur hp
    exact ⟨a1, a2, fun b u q nt => by rw [upd_ne (e0 b u q)]; exact a3 b u q nt⟩
theorem CInv.post (hs : StR K ca Mu al S H0) (h0 : H0 D0 = none) (c : CInv K ca pu Mu al S H0 D0 H al' S' acc da) : Post K ca pu Mu al S al' S' H0 H where
  ext := c.ext
  app := c.app
  st := ⟨c.st.len, c.st.nd, fun a h => .inr h, fun a m => c.st.tr a (.inl m), fun n o a h1 h2 => by
    have q := c.st.ob n o a h1 h2
    cases o with
    | lst ds =>
      obtain ⟨vs, h3, h4⟩ := q
      exact ⟨vs, h3, h4.less fun _ z => .inl z⟩
    | dct _ => exact q
    | ins _ _ => exact q, c.st.tb, c.st.xd, fun p hp => (c.st.xr p hp).less fun _ z => .inl z⟩
  free := c.free
  pur := c.pur
end
abbrev W0 : WX := fun _ _ _ _ => False
section
variable {X : Cx} {ca : Ca} {W : WX} {pu : Bool} {L : Lk} {pos : Pos}
noncomputable abbrev cF (L : Lk) (elt : CE) (tg : Tg) (ifs : CA) (own : List Nat) (r : Rho) : D → M (Option D) := fun x => match bindTg tg x (wipeR r own) with
      | some r' => do
        let b ← evT L ifs r'
        if b then (do let y ← ev L elt r'; pure (some y.d)) else pure none
      | none => M.bad
theorem comp_imp {elt : CE} {tg : Tg} {it : CI} {ifs : CA} {own : List Nat} (hb : elt.isBor = false) (ho : ∀ i ∈ tg.ixs, i ∈ own) (σ : L2.St) (H : Hp) (Q : VK)
    (h : tD X.K ca W L.pu false (ev L (.comp elt tg it ifs own)) σ H Q) : tLc (tI X.K ca W L it) (tGt X.K tg) (tT X.K ca W0 L.pu (evT L ifs)) (tD X.K ca W0 L.pu elt.isBor (ev L elt)) own σ H Q := by
  obtain ⟨Mu0, al0, S0, r, he0, hs0, hg⟩ := h
  have hg : Goal X.K ca L.pu _ Mu0 al0 S0 H (ROut X.K false) ((evI L it r >>= fun xs => M.nox (compGo (cF L elt tg ifs own r) xs) >>= fun ds => pure (.own ds)) S0) Q := hg
  refine ⟨Mu0, al0, S0, r, he0, hs0, Goal.seq mono_out hg fun items S al J H0 p0 hi g0 => ?_⟩
  have he := he0.post hs0 p0
  have hs := p0.st
  generalize MuA Mu0 al = Mu at he hs hi g0
  intro D0 h0
  have g0 : Goal X.K ca L.pu _ Mu al S H0 (ROut X.K false) (M.bind (M.nox (compGo (cF L elt tg ifs own r) items)) (fun ds => pure (.own ds)) S) Q := g0
  unfold M.bind M.nox at g0
  generalize hf : cF L elt tg ifs own r = f at g0
  cases qr : compGo f items S with
  | bad => rw [qr] at g0; exact g0.elim
  | exc x S' => rw [qr] at g0; exact g0.elim
  | ok dsF SF =>
    rw [qr] at g0
    have g0 : Goal X.K ca L.pu _ Mu al S H0 (ROut X.K false) (.ok (.own dsF) SF) Q := g0
    obtain ⟨hlen, G, Y, w, hG, hY⟩ := hi
    refine lc_it w (fun i H => ∃ al' S' acc da dr, CInv X.K ca L.pu Mu al S H0 D0 H al' S' acc da ∧ compGo f (items.drop i) S' = .ok dr SF ∧ da ++ dr = dsF ∧ acc.length ≤ i) ?_ ?_ ?_ ?_
    · refine ⟨al, S, [], [], dsF, ⟨fun b o _ q _ => same_upd h0 b o q, ⟨[], by simp, fun _ h => by cases h⟩, ⟨hs.len, hs.nd, fun a h => .inl (.inr h), fun a m => ?_, fun n o a h1 h2 => ?_, hs.tb.ext (same_upd h0), fun z hz => same_upd h0 _ _ (hs.xd z hz), fun z hz => (hs.xr z hz).go (goes0 hs h0)⟩, fun z => ?_, free_same (same_upd h0), fun _ => ⟨rfl, rfl, LamX.ExtN.of (same_upd h0)⟩, upd_same, .nil⟩, qr, rfl, Nat.zero_le _⟩
      · by_cases z : a = D0
        · subst z; rw [upd_same]; trivial
        · rw [upd_ne z]
          refine hs.tr a ?_
          rcases m with m | m
          · rw [muA_eq hs.mu] at m; exact m
          · exact absurd m z
      · have q := hs.ob n o a h1 h2
        cases o with
        | lst ds =>
          obtain ⟨vs, h3, h4⟩ := q
          refine ⟨vs, same_upd h0 _ _ h3, Reps.go ⟨fun a o _ e _ => same_upd h0 a o e, fun a o m e _ z => ?_, fun _ _ h => h⟩ h4⟩
          rcases z with z | z
          · rw [muA_eq hs.mu] at z; exact m z
          · subst z; rw [h0] at e; cases e
        | dct _ => exact q
        | ins _ _ => exact q
      · obtain ⟨u, hu⟩ := hs.trd (hs.mu _ z)
        rw [h0] at hu
        cases hu
    · rintro i H1 _ ⟨al', S', acc, da, dr, c, _⟩
      exact hG H1 (fun _ b o n e => c.ext b o (fun z => n (hs.mu b z)) e) fun _ => c.ext
    · rintro i x H1 H2 hi ⟨al', S', acc, da, dr, c, run, sum, le⟩ y
      obtain ⟨hsame, hr⟩ := hY i x items[i] H1 H2 _ al' (by simp [hi]) (c.goes hs h0) (fun a m => c.st.trd m) y
      have hd : items.drop i = items[i] :: items.drop (i + 1) := List.drop_eq_getElem_cons hi
      rw [hd] at run
      obtain ⟨o, S1, r1, run⟩ := M.bind_ok (show (f items[i] >>= fun r => compGo f (items.drop (i + 1)) >>= fun rs => pure (match r with | some d => d :: rs | none => rs)) S' = .ok dr SF from run)
      obtain ⟨rs, S2, r2, run⟩ := M.bind_ok run
      injection run with e1 e2
      subst e2
      have post0 : Post X.K ca L.pu (fun a => MuA Mu al' a ∨ a = D0) al' S' al' S' H1 H2 := Post.same c.st hsame
      have r1' : cF L elt tg ifs own r items[i] S' = .ok o S1 := by rw [hf]; exact r1
      unfold cF at r1'
      cases qb : bindTg tg items[i] (wipeR r own) with
      | none => rw [qb] at r1'; cases r1'
      | some r' =>
        rw [qb] at r1'
        obtain ⟨b, S3, r3, r4⟩ := M.bind_ok r1'
        have ew : EnvR X.K (fun a => MuA Mu al' a ∨ a = D0) al' (wipeR r own) (L2.wipe σ own) H1 := c.env hs h0 (he.wipe own)
        have ew2 := ew.post c.st post0
        rw [muA_eq (c.st.mu)] at ew2
        refine ⟨_, al', items[i], wipeR r own, r', ew2, hr, qb, fun σ2 e2 w2 => ⟨by rw [w2 own ho, wipe_wipe fun _ h => h], ?_⟩⟩
        have st2 := post0.st
        rw [muA_eq c.st.mu] at st2
        refine ⟨_, al', S', r', e2, st2, ?_⟩
        rw [r3]
        intro v H3 al3 p3 hv
        cases hv
        have p03 : Post X.K ca L.pu (fun a => MuA Mu al' a ∨ a = D0) al' S' al3 S3 H1 H3 := post0.trans (by rw [muA_eq c.st.mu]; exact p3)
        cases b with
        | false =>
          rw [if_neg (by simp)] at r4
          cases r4
          rw [if_neg (by simp)]
          exact ⟨al3, _, acc, da, rs, c.step hs h0 p03, r2, by rw [← sum, ← e1], Nat.le_succ_of_le le⟩
        | true =>
          rw [if_pos rfl] at r4
          rw [if_pos rfl]
          obtain ⟨oy, S4, r5, r6⟩ := M.bind_ok r4
          cases r6
          refine ⟨_, al3, S3, r', e2.post st2 p3, p3.st, ?_⟩
          rw [r5]
          intro y H4 al4 p4 hy
          have p04 := p03.trans (by rw [mu_eq (a := D0) p03]; rw [mu_eq (a := D0) p3] at p4; exact p4)
          have hy : OutB elt.isBor X.K _ al4 H3 H4 y oy := hy
          rw [hb] at hy
          have hr2 := hy.rep p4.st
          rw [muA_muA (fun a h => p4.sub a h), mu_eq (a := D0) p04] at hr2
          have hdr : dr = oy.d :: rs := e1.symm
          have c2 := c.step hs h0 p04
          refine ⟨acc, c2.lst, by omega, al4, _, acc ++ [y], da ++ [oy.d], rs, c2.add hs h0 hr2, r2, by rw [← sum, hdr, List.append_assoc]; rfl, by simp; omega⟩
    · rintro H1 ⟨al', S', acc, da, dr, c, run, sum, le⟩
      rw [List.drop_length] at run
      have z : R.ok ([] : List D) S' = R.ok dr SF := run
      injection z with z1 z2
      subst z1 z2
      refine Goal.ok g0 (c.post hs h0) (OutB.of ⟨D0, acc, rfl, fre_none h0, fun z => ?_, c.lst, ?_⟩)
      · rcases z with z | z
        · exact notMu hs (fre_none h0) z
        · exact c.nD z
      · rw [show dsF = da by rw [← sum, List.append_nil]]
        exact c.rp
theorem snd_comp {elt tg iter : Expr} {ifs : List Expr} {scope : Scope} {own : List (Str × Nat)} {c : CE} {t : Tg} {it : CI} {cs : CA} (hb : c.isBor = false) (ho : ∀ i ∈ t.ixs, i ∈ own.map (·.2)) (hc : X.calm = true) (hN : X.N.Nodup) (hi : SI X ca W L tg iter it) (ok : BlkOk X.N X.env.scope scope own)
    (hg : ∀ (s : Shared) (H : Hp) (C : Addr) (cl : List (Str × Addr)) (fp : List Addr), PG (X.blk s H scope (compEnvC scope cl C X.env) fp) tg (tGt X.K t)) (ht : ∀ (s : Shared) (H : Hp) (C : Addr) (cl : List (Str × Addr)) (fp : List Addr), SC (X.blk s H scope (compEnvC scope cl C X.env) fp) ca W0 L ifs cs)
    (he : ∀ (s : Shared) (H : Hp) (C : Addr) (cl : List (Str × Addr)) (fp : List Addr), SE (X.blk s H scope (compEnvC scope cl C X.env) fp) ca W0 L elt c) (hs : ∀ x, foldedSetIterable iter X.env x = pure x) :
    SE X ca W L (.ListComp elt [⟨tg, iter, ifs, 0⟩] scope pos) (.comp c t it cs (own.map (·.2))) :=
  imE (pe_lc hc hN hi ok hg ht he hs) fun σ H Q h => comp_imp hb ho σ H Q h
end
end Pb
end

section
set_option Elab.async false
set_option linter.all false
set_option maxRecDepth 100000
set_option maxHeartbeats 1000000
/-! Statements. -/
namespace Pb
open PySem PySem.Spec PyProof.Rows L2
/-- what may change: the caller's, the store, the frame's own -/
abbrev MuO (M0 : Addr → Prop) (al : List Addr) (O : Addr → Prop) : Addr → Prop := fun a => M0 a ∨ a ∈ al ∨ O a
structure Step (K : PySem.W.Frag) (ca : Ca) (pu : Bool) (M0 O : Addr → Prop) (al : List Addr) (S : List SO) (O' : Addr → Prop) (al' : List Addr) (S' : List SO) (H H' : Hp) : Prop where
  ext : ∀ b o, b ∉ al → ¬ O b → H b = some o → NT o → H' b = some o
  free : ∀ q, Fre H' q → Fre H q
  oi : ∀ a, O a → O' a
  fr : ∀ a, O' a → O a ∨ Fre H a
  app : ∃ new, al' = al ++ new ∧ ∀ a ∈ new, Fre H a
  st : StR K ca (MuO M0 al' O') al' S' H'
  pur : pu = true → al' = al ∧ S' = S ∧ ∀ b o, ¬ O b → H b = some o → NT o → H' b = some o
structure EnvS (K : PySem.W.Frag) (M0 O : Addr → Prop) (al : List Addr) (r : Rho) (σ : L2.St) (H : Hp) : Prop where
  env : EnvR K (MuO M0 al O) al r σ H
  own : ∀ (i : Nat) (ds : List D) (a : Addr), r[i]? = some (.own ds) → σ[i]? = some (some (.ref a)) → O a
  dis : ∀ a, O a → ¬ M0 a
section
variable {K : PySem.W.Frag} {ca : Ca} {pu : Bool} {M0 O O1 O2 : Addr → Prop} {al al1 al2 : List Addr} {S S1 S2 : List SO} {H H1 H2 : Hp}
theorem Step.refl (st : StR K ca (MuO M0 al O) al S H) : Step K ca pu M0 O al S O al S H H :=
  ⟨fun _ _ _ _ e _ => e, fun _ h => h, fun _ h => h, fun _ h => .inl h, ⟨[], by simp, fun _ h => by cases h⟩, st, fun _ => ⟨rfl, rfl, fun _ _ _ e _ => e⟩⟩
theorem Step.sub (s : Step K ca pu M0 O al S O1 al1 S1 H H1) : ∀ a, a ∈ al → a ∈ al1 := fun a h => by
  obtain ⟨new, e, _⟩ := s.app
  rw [e]
  exact List.mem_append_left _ h
theorem Step.trans (s : Step K ca pu M0 O al S O1 al1 S1 H H1) (t : Step K ca pu M0 O1 al1 S1 O2 al2 S2 H1 H2) : Step K ca pu M0 O al S O2 al2 S2 H H2 where
  free := fun q h => s.free q (t.free q h)
  ext := fun b o h1 h2 e nt => by
    refine t.ext b o (fun z => ?_) (fun z => ?_) (s.ext b o h1 h2 e nt) nt
    · obtain ⟨new, e1, e2⟩ := s.app
      rw [e1] at z
      rcases List.mem_append.mp z with z | z
      · exact h1 z
      · exact e2 b z o e nt
    · rcases s.fr b z with z | z
      · exact h2 z
      · exact z o e nt
  oi := fun a h => t.oi a (s.oi a h)
  fr := fun a h => by
    rcases t.fr a h with h | h
    · exact s.fr a h
    · exact .inr (s.free a h)
  app := by
    obtain ⟨n1, e1, f1⟩ := s.app
    obtain ⟨n2, e2, f2⟩ := t.app
    refine ⟨n1 ++ n2, by rw [e2, e1, List.append_assoc], fun a h => ?_⟩
    rcases List.mem_append.mp h with h | h
    · exact f1 a h
    · exact s.free a (f2 a h)
  st := t.st
  pur := fun hp => by
    obtain ⟨a1, a2, a3⟩ := s.pur hp
    obtain ⟨b1, b2, b3⟩ := t.pur hp
    refine ⟨b1.trans a1, b2.trans a2, fun b o h e nt => b3 b o (fun z => ?_) (a3 b o h e nt) nt⟩
    rcases s.fr b z with z | z
    · exact h z
    · exact z o e nt
theorem muO_muA (h : ∀ a, a ∈ al → a ∈ al1) : MuA (MuO M0 al O) al1 = MuO M0 al1 O := by
  funext a
  refine propext ⟨fun z => ?_, fun z => ?_⟩
  · rcases z with (z | z | z) | z
    · exact .inl z
    · exact .inr (.inl (h a z))
    · exact .inr (.inr z)
    · exact .inr (.inl z)
  · rcases z with z | z | z
    · exact .inl (.inl z)
    · exact .inr z
    · exact .inl (.inr (.inr z))
theorem Step.ofPost (p : Post K ca pu (MuO M0 al O) al S al1 S1 H H1) : Step K ca pu M0 O al S O al1 S1 H H1 where
  free := p.free
  ext := fun b o h _ e => p.ext b o h e
  oi := fun _ h => h
  fr := fun _ h => .inl h
  app := p.app
  st := by
    have := p.st
    rw [muO_muA p.sub] at this
    exact this
  pur := fun hp => by
    obtain ⟨a1, a2, a3⟩ := p.pur hp
    exact ⟨a1, a2, fun b o _ e nt => a3 b o e nt⟩
theorem Step.goes (hd : ∀ a, M0 a → ∃ o, H a = some o) (s : Step K ca pu M0 O al S O1 al1 S1 H H1) : Goes K (MuO M0 al O) (MuO M0 al1 O1) al al1 H H1 where
  st := fun a o n e => s.ext a o (fun z => n (.inr (.inl z))) (fun z => n (.inr (.inr z))) e
  mu := fun a o n e nt z => by
    rcases z with z | z | z
    · exact n (.inl z)
    · obtain ⟨new, e1, e2⟩ := s.app
      rw [e1] at z
      rcases List.mem_append.mp z with z | z
      · exact n (.inr (.inl z))
      · exact e2 a z o e nt
    · rcases s.fr a z with z | z
      · exact n (.inr (.inr z))
      · exact z o e nt
  al := fun n a e => by
    obtain ⟨new, e1, _⟩ := s.app
    rw [e1, List.getElem?_append_left (List.getElem?_eq_some_iff.mp e).1]
    exact e
theorem EnvS.post {r : Rho} {σ : L2.St} (hs : StR K ca (MuO M0 al O) al S H) (p : Post K ca pu (MuO M0 al O) al S al1 S1 H H1) (e : EnvS K M0 O al r σ H) : EnvS K M0 O al1 r σ H1 where
  env := by
    have := e.env.post hs p
    rw [muO_muA p.sub] at this
    exact this
  own := e.own
  dis := e.dis
theorem EnvS.dis' (hs : StR K ca (MuO M0 al O) al S H) {r : Rho} {σ : L2.St} (e : EnvS K M0 O al r σ H) (s : Step K ca pu M0 O al S O1 al1 S1 H H1) : ∀ a, O1 a → ¬ M0 a := fun a h m => by
  rcases s.fr a h with h | h
  · exact e.dis a h m
  · obtain ⟨o, q, nt⟩ := mut_nt (hs.tr a (.inl m))
    exact h o q nt
/-- what a def hands back -/
def OutS (K : PySem.W.Frag) (M0 O : Addr → Prop) (H : Hp) (al' : List Addr) (H' : Hp) (v : V) : Out → Prop
  | .v d => Rep K (MuA M0 al') al' H' v d
  | .own ds => ∃ p xs, v = .ref p ∧ (Fre H p ∨ O p) ∧ ¬ M0 p ∧ p ∉ al' ∧ H' p = some (.lst xs) ∧ Reps K (fun a => MuA M0 al' a ∨ a = p) al' H' xs ds
theorem OutS.back {H' : Hp} {v : V} {o : Out} (s : Step K ca pu M0 O al S O1 al1 S1 H H1) (h : OutS K M0 O1 H1 al2 H' v o) : OutS K M0 O H al2 H' v o := by
  cases o with
  | v d => exact h
  | own ds =>
    obtain ⟨p, xs, h1, h2, h3⟩ := h
    refine ⟨p, xs, h1, ?_, h3⟩
    rcases h2 with h2 | h2
    · exact .inl (s.free p h2)
    · exact (s.fr p h2).symm
/-- what is to be shown of a statement's run -/
def GoalS (K : PySem.W.Frag) (ca : Ca) (pu : Bool) (Ex : XK) (M0 O : Addr → Prop) (al : List Addr) (S : List SO) (H : Hp) (res : R Fl) (N : L2.St → Hp → Prop) (T : VK) : Prop :=
  match res with
  | .ok (.nx r') S' => ∀ σ' H' O' al', Step K ca pu M0 O al S O' al' S' H H' → EnvS K M0 O' al' r' σ' H' → N σ' H'
  | .ok (.rt o) S' => ∀ v H' O' al', Step K ca pu M0 O al S O' al' S' H H' → OutS K M0 O H al' H' v o → T v H'
  | .exc x S' => ∀ cls dx H' O' al', Step K ca pu M0 O al S O' al' S' H H' → ExR K ca (MuA M0 al') al' H' x cls dx → Ex cls dx H'
  | .bad => False
variable {Ex : XK} {N : L2.St → Hp → Prop} {T : VK}
theorem GoalS.later {res : R Fl} (s : Step K ca pu M0 O al S O1 al1 S1 H H1) (h : GoalS K ca pu Ex M0 O al S H res N T) : GoalS K ca pu Ex M0 O1 al1 S1 H1 res N T := by
  cases res with
  | ok f S' =>
    cases f with
    | nx r' => exact fun σ' H' O' al' t e => h σ' H' O' al' (s.trans t) e
    | rt o => exact fun v H' O' al' t e => h v H' O' al' (s.trans t) (e.back s)
  | exc x S' => exact fun cls dx H' O' al' t e => h cls dx H' O' al' (s.trans t) e
  | bad => exact h
theorem ExR.less {Mu Mu' : Addr → Prop} {x : Exn} {cls : Value} {dx : Option Addr} (h : ∀ a, Mu' a → Mu a) (e : ExR K ca Mu al H x cls dx) : ExR K ca Mu' al H x cls dx := by
  obtain ⟨h1, h2⟩ := e
  refine ⟨h1, h2.imp id ?_⟩
  rintro ⟨d, fs, a1, a2, a3⟩
  refine ⟨d, fs, a1, a2, fun i nm e h4 h5 => ?_⟩
  obtain ⟨v, h6, h7⟩ := a3 i nm e h4 h5
  exact ⟨v, h6, h7.less h⟩
/-- an expression's run, then the rest -/
theorem GoalS.seq {α β : Type} {m : M α} {k : α → M Fl} {Rel1 : RelT α β} {Q1 : β → Hp → Prop} (h : GoalS K ca pu Ex M0 O al S H ((m >>= k) S) N T)
    (h1 : ∀ o S1 al1 v H1, Post K ca pu (MuO M0 al O) al S al1 S1 H H1 → Rel1 H (MuO M0 al1 O) al1 H1 v o → GoalS K ca pu Ex M0 O al1 S1 H1 (k o S1) N T → Q1 v H1) : Goal K ca pu Ex (MuO M0 al O) al S H Rel1 (m S) Q1 := by
  have e : (m >>= k) S = M.bind m k S := rfl
  rw [e] at h
  unfold M.bind at h
  cases q : m S with
  | ok o S1 =>
    rw [q] at h
    intro v H1 al1 p r
    rw [muO_muA p.sub] at r
    exact h1 o S1 al1 v H1 p r (GoalS.later (Step.ofPost p) h)
  | exc x S1 =>
    rw [q] at h
    intro cls dx H1 al1 p r
    rw [muO_muA p.sub] at r
    exact h cls dx H1 O al1 (Step.ofPost p) (r.less fun a z => z.elim .inl fun z => .inr (.inl z))
  | bad =>
    rw [q] at h
    exact h
/-- one statement's run, then the rest -/
theorem GoalS.then {m : M Fl} {k : Rho → M Fl} (h : GoalS K ca pu Ex M0 O al S H ((m >>= fun f => match f with | .nx r' => k r' | .rt o => pure (.rt o)) S) N T)
    {N1 : L2.St → Hp → Prop} (h1 : ∀ r' S1 al1 O1 σ1 H1, Step K ca pu M0 O al S O1 al1 S1 H H1 → EnvS K M0 O1 al1 r' σ1 H1 → GoalS K ca pu Ex M0 O1 al1 S1 H1 (k r' S1) N T → N1 σ1 H1) : GoalS K ca pu Ex M0 O al S H (m S) N1 T := by
  have e : (m >>= fun f => match f with | .nx r' => k r' | .rt o => pure (.rt o)) S = M.bind m (fun f => match f with | .nx r' => k r' | .rt o => pure (.rt o)) S := rfl
  rw [e] at h
  unfold M.bind at h
  cases q : m S with
  | ok f S1 =>
    rw [q] at h
    cases f with
    | nx r' => exact fun σ1 H1 O1 al1 s e => h1 r' S1 al1 O1 σ1 H1 s e (GoalS.later s h)
    | rt o => exact h
  | exc x S1 =>
    rw [q] at h
    exact h
  | bad =>
    rw [q] at h
    exact h
theorem GoalS.nx {r' : Rho} {σ' : L2.St} {H' : Hp} (h : GoalS K ca pu Ex M0 O al S H (.ok (.nx r') S1) N T) (s : Step K ca pu M0 O al S O1 al1 S1 H H') (e : EnvS K M0 O1 al1 r' σ' H') : N σ' H' := h σ' H' O1 al1 s e
end
/-- what a state must bear for a statement -/
def tS (K : PySem.W.Frag) (ca : Ca) (Ex : XK) (pu : Bool) (M0 : Addr → Prop) (run : Rho → M Fl) : TS := fun D σ H =>
  ∃ O al S r, EnvS K M0 O al r σ H ∧ StR K ca (MuO M0 al O) al S H ∧ GoalS K ca pu Ex M0 O al S H (run r S) D.nx D.rt
abbrev WO (Ex : XK) : WX := fun cls dx _ H => Ex cls dx H
section
variable {X : Cx} {ca : Ca} {Ex : XK} {M0 : Addr → Prop} {L : Lk} {pos : Pos}
abbrev SS (X : Cx) (ca : Ca) (Ex : XK) (M0 : Addr → Prop) (L : Lk) (s : Stmt) (c : CS) : Prop := PS X s (tS X.K ca Ex L.pu M0 (exS L c))
abbrev SB (X : Cx) (ca : Ca) (Ex : XK) (M0 : Addr → Prop) (L : Lk) (s : List Stmt) (c : CB) : Prop := PSs X s (tS X.K ca Ex L.pu M0 (exB L c))
theorem sb_nil : SB X ca Ex M0 L [] .nil := imB pss_nil fun D σ H h => by
  obtain ⟨O, al, S, r, he, hs, hg⟩ := h
  exact GoalS.nx (show GoalS X.K ca L.pu Ex M0 O al S H (.ok (.nx r) S) D.nx D.rt from hg) (Step.refl hs) he
theorem sb_cons {s : Stmt} {ss : List Stmt} {c : CS} {cs : CB} (h : SS X ca Ex M0 L s c) (hs : SB X ca Ex M0 L ss cs) : SB X ca Ex M0 L (s :: ss) (.cons c cs) := imB (pss_cons h hs) fun D σ H h => by
  obtain ⟨O, al, S, r, he, hs, hg⟩ := h
  refine ⟨O, al, S, r, he, hs, GoalS.then (k := exB L cs) hg fun r' S1 al1 O1 σ1 H1 st e1 g1 => ⟨O1, al1, S1, r', e1, st.st, g1⟩⟩
/-- a docstring, pass -/
theorem sb_skip {s : Stmt} {ss : List Stmt} {cs : CB} (h : PS X s tNext) (hs : SB X ca Ex M0 L ss cs) : SB X ca Ex M0 L (s :: ss) cs := imB (pss_cons h hs) fun _ _ _ h => h
/-- the expression of a statement -/
theorem ofE {m : CE} {k : Out → M Fl} {O : Addr → Prop} {al : List Addr} {S : List SO} {r : Rho} {σ : L2.St} {H : Hp} {Q : VK} {N : L2.St → Hp → Prop} {T : VK} (he : EnvS X.K M0 O al r σ H) (hs : StR X.K ca (MuO M0 al O) al S H) (hg : GoalS X.K ca L.pu Ex M0 O al S H ((ev L m r >>= k) S) N T)
    (h1 : ∀ o S1 al1 v H1, Post X.K ca L.pu (MuO M0 al O) al S al1 S1 H H1 → OutB m.isBor X.K (MuO M0 al1 O) al1 H H1 v o → EnvS X.K M0 O al1 r σ H1 → StR X.K ca (MuO M0 al1 O) al1 S1 H1 → GoalS X.K ca L.pu Ex M0 O al1 S1 H1 (k o S1) N T → Q v H1) : tD X.K ca (WO Ex) L.pu m.isBor (ev L m) σ H Q :=
  ⟨_, al, S, r, he.env, hs, GoalS.seq hg fun o S1 al1 v H1 p ro g => h1 o S1 al1 v H1 p ro (he.post hs p) (Step.ofPost p).st g⟩
theorem ss_drop {e : Expr} {c : CE} (h : SE X ca (WO Ex) L e c) (hs : swapsWith e none pos.line X.env = pure false) : SS X ca Ex M0 L (.Expr e pos) (.drop c) := imS (ps_expr h hs) fun D σ H h => by
  obtain ⟨O, al, S, r, he, hs, hg⟩ := h
  exact ofE he hs hg fun o S1 al1 v H1 p ro e1 s1 g1 => GoalS.nx (show GoalS X.K ca L.pu Ex M0 O al1 S1 H1 (.ok (.nx r) S1) D.nx D.rt from g1) (Step.refl s1) e1
theorem OutR.toS {K : PySem.W.Frag} {M0 O : Addr → Prop} {al : List Addr} {H0 H : Hp} {v : V} {o : Out} (h : OutR K (MuO M0 al O) al H0 H v o) : OutS K M0 O H0 al H v o := by
  have le : ∀ a, MuA M0 al a → MuO M0 al O a := fun a z => z.elim .inl fun z => .inr (.inl z)
  cases o with
  | v d => exact Rep.less le h
  | own ds =>
    obtain ⟨p, xs, h1, h2, h3, h4, h5⟩ := h
    exact ⟨p, xs, h1, .inl h2, fun z => h3 (.inl z), fun z => h3 (.inr (.inl z)), h4, h5.less fun a z => z.imp (le a) id⟩
theorem ss_ret {e : Expr} {c : CE} (hb : c.isBor = false) (h : SE X ca (WO Ex) L e c) : SS X ca Ex M0 L (.Return (some e) pos) (.ret c) := imS (ps_ret h) fun D σ H h => by
  obtain ⟨O, al, S, r, he, hs, hg⟩ := h
  have hg : GoalS X.K ca L.pu Ex M0 O al S H ((ev L c r >>= fun o => pure (.rt o)) S) D.nx D.rt := hg
  refine ⟨_, al, S, r, he.env, hs, ?_⟩
  have e : (ev L c r >>= fun o => pure (Fl.rt o)) S = M.bind (ev L c r) (fun o => pure (Fl.rt o)) S := rfl
  rw [e] at hg
  unfold M.bind at hg
  cases q : ev L c r S with
  | ok o S1 =>
    rw [q] at hg
    intro v H1 al1 p ro
    rw [muO_muA p.sub] at ro
    have ro : OutB c.isBor X.K (MuO M0 al1 O) al1 H H1 v o := ro
    rw [hb] at ro
    exact (show GoalS X.K ca L.pu Ex M0 O al S H (.ok (.rt o) S1) D.nx D.rt from hg) v H1 O al1 (Step.ofPost p) (OutR.toS (OutB.out ro))
  | exc x S1 =>
    rw [q] at hg
    intro cls dx H1 al1 p r
    rw [muO_muA p.sub] at r
    exact hg cls dx H1 O al1 (Step.ofPost p) (r.less fun a z => z.elim .inl fun z => .inr (.inl z))
  | bad =>
    rw [q] at hg
    exact hg
theorem ss_retN : SS X ca Ex M0 L (.Return none pos) (.ret (.lit .non)) := imS ps_retN fun D σ H h => by
  obtain ⟨O, al, S, r, he, hs, hg⟩ := h
  exact (show GoalS X.K ca L.pu Ex M0 O al S H (.ok (.rt (.v .non)) S) D.nx D.rt from hg) _ _ O al (Step.refl hs) .non
theorem ss_retO {i : Nat} {x : Str} {np : Pos} (hN : X.N[i]? = some x) (hv : Vis X.env.scope x) (hd : (x == ("__debug__" : Str)) = false) (hcd : (x == ("__classdict__" : Str)) = false) : SS X ca Ex M0 L (.Return (some (.Name x np)) pos) (.retO i) := imS (ps_ret (pe_var hN hv hd hcd)) fun D σ H h => by
  obtain ⟨O, al, S, r, he, hs, hg⟩ := h
  have hg : GoalS X.K ca L.pu Ex M0 O al S H ((match r[i]? with | some (.own ds) => pure (.rt (.own ds)) | _ => M.bad : M Fl) S) D.nx D.rt := hg
  cases q : r[i]? with
  | none => rw [q] at hg; exact hg.elim
  | some sl =>
    rw [q] at hg
    cases sl with
    | un => exact hg.elim
    | v ds => exact hg.elim
    | own ds =>
      obtain ⟨a, xs, h1, h2, h3, h4, h5⟩ := he.env.ow i ds q
      have ho := he.own i ds a q h1
      exact ⟨_, h1, (show GoalS X.K ca L.pu Ex M0 O al S H (.ok (.rt (.own ds)) S) D.nx D.rt from hg) _ _ O al (Step.refl hs) ⟨a, xs, rfl, .inr ho, he.dis a ho, h5, h2, h3.less fun b z => z.elim (fun z => z.elim .inl fun z => .inr (.inl z)) fun z => by rw [z]; exact h4⟩⟩
theorem ss_ite {c : Expr} {a b : List Stmt} {cc : CE} {ca' cb : CB} (hc : ST X ca (WO Ex) L c cc) (ha : SB X ca Ex M0 L a ca') (hb : SB X ca Ex M0 L b cb) : SS X ca Ex M0 L (.If c a b pos) (.ite cc ca' cb) := imS (ps_if hc ha hb) fun D σ H h => by
  obtain ⟨O, al, S, r, he, hs, hg⟩ := h
  have hg : GoalS X.K ca L.pu Ex M0 O al S H ((ev L cc r >>= fun x => asBool x.d >>= fun t => if t then exB L ca' r else exB L cb r) S) D.nx D.rt := hg
  rw [← M.bind_assoc] at hg
  refine ⟨_, al, S, r, he.env, hs, GoalS.seq (Rel1 := RBool) hg fun t S1 al1 v H1 p ro g => ?_⟩
  have ro : v = t := ro
  subst ro
  cases v with
  | true =>
    rw [if_pos rfl] at g ⊢
    exact ⟨O, al1, S1, r, he.post hs p, (Step.ofPost p).st, g⟩
  | false =>
    rw [if_neg (by simp)] at g ⊢
    exact ⟨O, al1, S1, r, he.post hs p, (Step.ofPost p).st, g⟩
end
end Pb
end

section
set_option Elab.async false
set_option linter.all false
set_option maxRecDepth 100000
set_option maxHeartbeats 1000000
/-! Statements that store; loops. -/
namespace Pb
open PySem PySem.Spec PyProof.Rows L2
mutual
theorem bindTg_own : ∀ (t : Tg) (d : D) (r r' : Rho), bindTg t d r = some r' → ∀ (i : Nat) (ds : List D), r'[i]? = some (.own ds) → r[i]? = some (.own ds) ∧ i ∉ t.ixs
  | .var j, d, r, r', h, i, ds, e => by
    cases h
    rw [List.getElem?_set] at e
    split at e
    · split at e <;> cases e
    · rename_i n
      exact ⟨e, fun z => n (List.mem_singleton.mp z).symm⟩
  | .tup ts, .tuple ds', r, r', h, i, ds, e => bindTgs_own ts ds' r r' h i ds e
  | .tup _, .non, _, _, h, _, _, _ => by cases h
  | .tup _, .bool _, _, _, h, _, _, _ => by cases h
  | .tup _, .int _, _, _, h, _, _, _ => by cases h
  | .tup _, .str _, _, _, h, _, _, _ => by cases h
  | .tup _, .list _, _, _, h, _, _, _ => by cases h
  | .tup _, .loc _, _, _, h, _, _, _ => by cases h
  | .tup _, .scr _, _, _, h, _, _, _ => by cases h
  | .tup _, .clo _, _, _, h, _, _, _ => by cases h
theorem bindTgs_own : ∀ (ts : Tgs) (vs : List D) (r r' : Rho), bindTgs ts vs r = some r' → ∀ (i : Nat) (ds : List D), r'[i]? = some (.own ds) → r[i]? = some (.own ds) ∧ i ∉ ts.ixs
  | .nil, [], r, r', h, i, ds, e => by
    cases h
    exact ⟨e, fun z => by cases z⟩
  | .nil, _ :: _, _, _, h, _, _, _ => by cases h
  | .cons _ _, [], _, _, h, _, _, _ => by cases h
  | .cons t ts, d :: vs, r, r', h, i, ds, e => by
    have h : (match bindTg t d r with | some r' => bindTgs ts vs r' | none => none) = some r' := h
    cases q : bindTg t d r with
    | none => rw [q] at h; cases h
    | some r1 =>
      rw [q] at h
      obtain ⟨h1, h2⟩ := bindTgs_own ts vs r1 r' h i ds e
      obtain ⟨h3, h4⟩ := bindTg_own t d r r1 q i ds h1
      exact ⟨h3, fun z => (List.mem_append.mp z).elim h4 h2⟩
end
section
variable {K : PySem.W.Frag} {ca : Ca} {pu : Bool} {M0 O O1 : Addr → Prop} {al al1 : List Addr} {S S1 : List SO} {H H1 : Hp} {r r' : Rho} {σ σ' : L2.St}
theorem tabs_upd {T : List (Addr × Str)} {a : Addr} {xs ys : List V} (t : LamX.Tabs T H) (h : H a = some (.lst xs)) : LamX.Tabs T (upd H a (.lst ys)) := by
  rintro p hp
  obtain ⟨ps, h1, h2, h3⟩ := t p hp
  have n1 : p.1 ≠ a := fun z => by
    rw [z, h] at h1
    cases h1
  refine ⟨ps, by rw [upd_ne n1]; exact h1, h2, fun pos cv hc => ?_⟩
  obtain ⟨k, h4, h5⟩ := h3 pos cv hc
  refine ⟨k, h4, ?_⟩
  have n2 : k ≠ a := fun z => by
    rw [z, h] at h5
    cases h5
  rw [upd_ne n2]
  exact h5
theorem xd_upd {xds : List (Addr × List (Str × V))} {a : Addr} {xs ys : List V} (t : ∀ p ∈ xds, H p.1 = some (.xd p.2)) (h : H a = some (.lst xs)) : ∀ p ∈ xds, upd H a (.lst ys) p.1 = some (.xd p.2) := fun p hp => by
  have q := t p hp
  rw [upd_ne (fun z => by
    rw [z, h] at q
    cases q)]
  exact q
theorem EnvS.setV {v : V} {d : D} (i : Nat) (e : EnvS K M0 O al r σ H) (h : Rep K (MuO M0 al O) al H v d) : EnvS K M0 O al (r.set i (.v d)) (σ.set i (some v)) H where
  env := e.env.setV i h
  own := fun j ds a hj hs => by
    rw [List.getElem?_set] at hj
    split at hj
    · split at hj <;> cases hj
    · rename_i n
      rw [List.getElem?_set_ne n] at hs
      exact e.own j ds a hj hs
  dis := e.dis
theorem EnvS.bind {t : Tg} {d : D} (e : EnvS K M0 O al r σ H) (hb : bindTg t d r = some r') (he : EnvR K (MuO M0 al O) al r' σ' H) (hw : ∀ vs, (∀ i ∈ t.ixs, i ∈ vs) → L2.wipe σ' vs = L2.wipe σ vs) : EnvS K M0 O al r' σ' H where
  env := he
  own := fun i ds a h1 h2 => by
    obtain ⟨h3, h4⟩ := bindTg_own t d r r' hb i ds h1
    refine e.own i ds a h3 ?_
    have w := congrArg (fun z : L2.St => z[i]?) (hw t.ixs fun _ h => h)
    simp only [wipe_out h4] at w
    rw [← w]
    exact h2
  dis := e.dis
theorem EnvS.step (hd : ∀ a, M0 a → ∃ o, H a = some o) (hs : StR K ca (MuO M0 al O) al S H) (s : Step K ca pu M0 O al S O1 al1 S1 H H1) {r : Rho} (hn : ∀ (i : Nat) (ds : List D), r[i]? ≠ some (.own ds)) (e : EnvS K M0 O al r σ H) : EnvS K M0 O1 al1 r σ H1 where
  env := ⟨e.env.len, fun i d h => by
    obtain ⟨v, h1, h2⟩ := e.env.vl i d h
    exact ⟨v, h1, h2.go (s.goes hd)⟩, fun i ds h => absurd h (hn i ds), fun i j ds es a _ h => absurd h (hn i ds)⟩
  own := fun i ds a h => absurd h (hn i ds)
  dis := e.dis' hs s
/-- a new list of the frame's own -/
theorem EnvS.setO {p : Addr} {xs : List V} {ds : List D} (i : Nat) (hs : StR K ca (MuO M0 al O) al S H) (e : EnvS K M0 O al r σ H) (hsame : SameN H H1) (htb : LamX.Tabs ca.tabs H1) (hp : Fre H p) (h1 : H1 p = some (.lst xs)) (hr : Reps K (MuO M0 al O) al H1 xs ds)
    (hr' : Reps K (MuO M0 al fun a => O a ∨ a = p) al H1 xs ds) :
    Step K ca pu M0 O al S (fun a => O a ∨ a = p) al S H H1 ∧ EnvS K M0 (fun a => O a ∨ a = p) al (r.set i (.own ds)) (σ.set i (some (.ref p))) H1 := by
  have g : Goes K (MuO M0 al O) (MuO M0 al fun a => O a ∨ a = p) al al H H1 := {
    st := fun a o _ q nt => hsame a o q nt
    al := fun _ _ h => h
    mu := fun a o n q nt z => by
      rcases z with z | z | z
      · exact n (.inl z)
      · exact n (.inr (.inl z))
      · rcases z with z | z
        · exact n (.inr (.inr z))
        · exact hp o (by rw [← z]; exact q) nt }
  have np : ∀ a, MuO M0 al O a → a ≠ p := fun a m z => by
    obtain ⟨o, q, nt⟩ := mut_nt (hs.tr a m)
    exact hp o (by rw [← z]; exact q) nt
  have st : StR K ca (MuO M0 al fun a => O a ∨ a = p) al S H1 := {
    len := hs.len
    nd := hs.nd
    mu := fun a h => .inr (.inl h)
    tr := fun a m => by
      by_cases z : a = p
      · rw [z, h1]
        trivial
      · have m' : MuO M0 al O a := by
          rcases m with m | m | m | m
          · exact .inl m
          · exact .inr (.inl m)
          · exact .inr (.inr m)
          · exact absurd m z
        have t := hs.tr a m'
        obtain ⟨o, q, nt⟩ := mut_nt t
        rw [hsame a o q nt]
        rw [q] at t
        exact t
    ob := fun n o a h2 h3 => by
      have q := hs.ob n o a h2 h3
      cases o with
      | lst ds =>
        obtain ⟨vs, h4, h5⟩ := q
        exact ⟨vs, hsame _ _ h4 nt_lst, Reps.go g h5⟩
      | dct _ => exact q
      | ins _ _ => exact q
    tb := htb
    xd := fun z hz => hsame _ _ (hs.xd z hz) nt_xd
    xr := fun z hz => (hs.xr z hz).go g }
  refine ⟨⟨fun b o _ _ q nt => hsame b o q nt, free_sameN hsame, fun _ h => .inl h, fun a h => h.imp id (fun z => by rw [z]; exact hp), ⟨[], by simp, fun _ h => by cases h⟩, st, fun _ => ⟨rfl, rfl, fun b o _ q nt => hsame b o q nt⟩⟩, ⟨⟨?_, ?_, ?_, ?_⟩, ?_, ?_⟩⟩
  · rw [List.length_set, List.length_set]
    exact e.env.len
  · intro j d hj
    rw [List.getElem?_set] at hj
    split at hj
    · split at hj <;> cases hj
    · rename_i n
      obtain ⟨v, h2, h3⟩ := e.env.vl j d hj
      exact ⟨v, by rw [List.getElem?_set_ne n]; exact h2, h3.go g⟩
  · intro j es hj
    rw [List.getElem?_set] at hj
    split at hj
    · rename_i n
      split at hj
      · rename_i hl
        cases hj
        subst n
        exact ⟨p, xs, by rw [List.getElem?_set_self (by rw [← e.env.len]; exact hl)], h1, hr', .inr (.inr (.inr rfl)), fun z => np p (.inr (.inl z)) rfl⟩
      · cases hj
    · rename_i n
      obtain ⟨a, ys, h2, h3, h4, h5, h6⟩ := e.env.ow j es hj
      refine ⟨a, ys, by rw [List.getElem?_set_ne n]; exact h2, hsame _ _ h3 nt_lst, Reps.go g h4, ?_, h6⟩
      rcases h5 with h5 | h5 | h5
      · exact .inl h5
      · exact .inr (.inl h5)
      · exact .inr (.inr (.inl h5))
  · intro j k es fs a hjk hj hk h2 h3
    have old : ∀ (m : Nat) (gs : List D), (r.set i (.own ds))[m]? = some (.own gs) → (σ.set i (some (.ref p)))[m]? = some (some (.ref a)) → (m = i ∧ a = p) ∨ (m ≠ i ∧ r[m]? = some (.own gs) ∧ σ[m]? = some (some (.ref a)) ∧ a ≠ p) := fun m gs q1 q2 => by
      by_cases z : i = m
      · subst z
        rw [List.getElem?_set] at q2
        rw [if_pos rfl] at q2
        split at q2
        · cases q2
          exact .inl ⟨rfl, rfl⟩
        · cases q2
      · rw [List.getElem?_set_ne z] at q1 q2
        refine .inr ⟨fun y => z y.symm, q1, q2, ?_⟩
        obtain ⟨b, ys, g1, g2, _⟩ := e.env.ow m gs q1
        rw [q2] at g1
        cases g1
        intro y
        exact hp _ (by rw [← y]; exact g2) nt_lst
    rcases old j es hj h2 with ⟨a1, a2⟩ | ⟨a1, a2, a3, a4⟩
    · rcases old k fs hk h3 with ⟨b1, b2⟩ | ⟨b1, b2, b3, b4⟩
      · exact hjk (a1.trans b1.symm)
      · exact b4 a2
    · rcases old k fs hk h3 with ⟨b1, b2⟩ | ⟨b1, b2, b3, b4⟩
      · exact a4 b2
      · exact e.env.ap j k es fs a hjk a2 b2 a3 b3
  · intro j es a hj h2
    by_cases z : i = j
    · subst z
      rw [List.getElem?_set, if_pos rfl] at h2
      split at h2
      · cases h2
        exact .inr rfl
      · cases h2
    · rw [List.getElem?_set_ne z] at hj h2
      exact .inl (e.own j es a hj h2)
  · intro a h m
    rcases h with h | h
    · exact e.dis a h m
    · exact np a (.inl m) h
/-- a list of the frame's own written anew -/
theorem EnvS.updO {p : Addr} {ds es : List D} {ys : List V} {i : Nat} (hs : StR K ca (MuO M0 al O) al S H) (e : EnvS K M0 O al r σ H) (hi : r[i]? = some (.own ds)) (hp : σ[i]? = some (some (.ref p))) (hr : Reps K (MuO M0 al O) al H ys es) :
    Step K ca pu M0 O al S O al S H (upd H p (.lst ys)) ∧ EnvS K M0 O al (r.set i (.own es)) σ (upd H p (.lst ys)) := by
  have ho := e.own i ds p hi hp
  obtain ⟨p', xs, g1, g2, g3, g4, g5⟩ := e.env.ow i ds hi
  rw [hp] at g1
  cases g1
  have g : Goes K (MuO M0 al O) (MuO M0 al O) al al H (upd H p (.lst ys)) := ⟨fun a o n q _ => by
    have : a ≠ p := fun z => n (.inr (.inr (z ▸ ho)))
    rw [upd_ne this]
    exact q, fun _ _ h _ _ => h, fun _ _ h => h⟩
  refine ⟨⟨fun b o _ h2 q _ => by rw [upd_ne (fun (z : b = p) => h2 (by rw [z]; exact ho))]; exact q, fun q h => ?_, fun _ h => h, fun _ h => .inl h, ⟨[], by simp, fun _ h => by cases h⟩, ⟨hs.len, hs.nd, hs.mu, fun a m => ?_, fun n o a h2 h3 => ?_, ?_, xd_upd hs.xd g2, fun z hz => (hs.xr z hz).go g⟩, fun _ => ⟨rfl, rfl, fun b o h q _ => by rw [upd_ne (fun (z : b = p) => h (by rw [z]; exact ho))]; exact q⟩⟩, ⟨⟨?_, ?_, ?_, ?_⟩, ?_, e.dis⟩⟩
  · intro o e nt
    by_cases z : q = p
    · exact h _ (by rw [z, upd_same]) nt_lst
    · exact h o (by rw [upd_ne z]; exact e) nt
  · by_cases z : a = p
    · rw [z, upd_same]
      trivial
    · rw [upd_ne z]
      exact hs.tr a m
  · have q := hs.ob n o a h2 h3
    cases o with
    | lst ds =>
      obtain ⟨vs, h4, h5⟩ := q
      have na : a ≠ p := fun z => g5 (z ▸ List.mem_of_getElem? h3)
      exact ⟨vs, by rw [upd_ne na]; exact h4, Reps.go g h5⟩
    | dct _ => exact q
    | ins _ _ => exact q
  · exact tabs_upd hs.tb g2
  · rw [List.length_set]
    exact e.env.len
  · intro j d hj
    rw [List.getElem?_set] at hj
    split at hj
    · split at hj <;> cases hj
    · obtain ⟨v, h2, h3⟩ := e.env.vl j d hj
      exact ⟨v, h2, h3.go g⟩
  · intro j fs hj
    rw [List.getElem?_set] at hj
    split at hj
    · rename_i n
      split at hj
      · cases hj
        subst n
        exact ⟨p, ys, hp, upd_same, Reps.go g hr, g4, g5⟩
      · cases hj
    · rename_i n
      obtain ⟨a, zs, h2, h3, h4, h5, h6⟩ := e.env.ow j fs hj
      have na : a ≠ p := fun z => e.env.ap i j ds fs p n hi hj hp (z ▸ h2)
      exact ⟨a, zs, h2, by rw [upd_ne na]; exact h3, Reps.go g h4, h5, h6⟩
  · intro j k fs gs a hjk hj hk h2
    have old : ∀ (m : Nat) (fs : List D), (r.set i (.own es))[m]? = some (.own fs) → ∃ gs, r[m]? = some (.own gs) := fun m fs q => by
      rw [List.getElem?_set] at q
      split at q
      · rename_i z
        exact ⟨ds, z ▸ hi⟩
      · exact ⟨_, q⟩
    obtain ⟨_, q1⟩ := old j fs hj
    obtain ⟨_, q2⟩ := old k gs hk
    exact e.env.ap j k _ _ a hjk q1 q2 h2
  · intro j fs a hj h2
    rw [List.getElem?_set] at hj
    split at hj
    · rename_i z
      exact e.own i ds a hi (z ▸ h2)
    · exact e.own j fs a hj h2
end
end Pb
end

section
set_option Elab.async false
set_option linter.all false
set_option maxRecDepth 100000
set_option maxHeartbeats 1000000
/-! Statements that store; loops: the rules. -/
namespace Pb
open PySem PySem.Spec PyProof.Rows L2
section
variable {X : Cx} {ca : Ca} {Ex : XK} {M0 : Addr → Prop} {L : Lk} {pos : Pos}
/-- name = value -/
theorem ss_setG {s : Stmt} {te : TE} {i : Nat} {c : CE} (hb : c.isBor = false) (h : PS X s (tAsg te (gName i))) (q : ∀ σ H Q, tD X.K ca (WO Ex) L.pu c.isBor (ev L c) σ H Q → te σ H Q) : SS X ca Ex M0 L s (.set i false c) := imS h fun D σ H h => by
  obtain ⟨O, al, S, r, he, hs, hg⟩ := h
  have hg : GoalS X.K ca L.pu Ex M0 O al S H ((ev L c r >>= fun o => pure (.nx (r.set i (.v o.d)))) S) D.nx D.rt := hg
  refine q _ _ _ (ofE he hs hg fun o S1 al1 v H1 p ro e1 s1 g1 => ?_)
  rw [hb] at ro
  exact GoalS.nx (show GoalS X.K ca L.pu Ex M0 O al1 S1 H1 (.ok (.nx _) S1) D.nx D.rt from g1) (Step.refl s1) (e1.setV i (ro.rep s1))
theorem ss_setOG {s : Stmt} {te : TE} {i : Nat} {c : CE} (hb : c.isBor = false) (h : PS X s (tAsg te (gName i))) (q : ∀ σ H Q, tD X.K ca (WO Ex) true c.isBor (ev L.pure c) σ H Q → te σ H Q) : SS X ca Ex M0 L s (.set i true c) := imS h fun D σ H h => by
  obtain ⟨O, al, S, r, he, hs, hg⟩ := h
  have hg : GoalS X.K ca L.pu Ex M0 O al S H ((ev L.pure c r >>= fun o => match o with
      | .own ds => pure (.nx (r.set i (.own ds)))
      | .v _ => M.bad) S) D.nx D.rt := hg
  refine q _ _ _ ⟨_, al, S, r, he.env, hs, ?_⟩
  have e : (ev L.pure c r >>= fun o => match o with
      | .own ds => pure (Fl.nx (r.set i (.own ds)))
      | .v _ => M.bad) S = M.bind (ev L.pure c r) (fun o => match o with
      | .own ds => pure (Fl.nx (r.set i (.own ds)))
      | .v _ => M.bad) S := rfl
  rw [e] at hg
  unfold M.bind at hg
  cases q : ev L.pure c r S with
  | ok o S1 =>
    rw [q] at hg
    intro v H1 al1 p ro
    obtain ⟨e1, e2, hsame⟩ := p.pur rfl
    subst e1 e2
    have ro : OutB c.isBor X.K (MuA (MuO M0 al1 O) al1) al1 H H1 v o := ro
    rw [hb, muO_muA fun _ h => h] at ro
    cases o with
    | v d => exact hg.elim
    | own ds =>
      obtain ⟨p', xs, rfl, g1, g2, g3, g4⟩ := OutB.out ro
      have hr' : Reps X.K (MuO M0 al1 fun a => O a ∨ a = p') al1 H1 xs ds := g4.less fun a z => by
        rcases z with z | z | z | z
        · exact .inl (.inl z)
        · exact .inl (.inr (.inl z))
        · exact .inl (.inr (.inr z))
        · exact .inr z
      obtain ⟨st, en⟩ := he.setO (pu := L.pu) i hs hsame p.st.tb g1 g3 (g4.less fun _ z => .inl z) hr'
      exact GoalS.nx (show GoalS X.K ca L.pu Ex M0 O al1 S1 H (.ok (.nx _) S1) D.nx D.rt from hg) st en
  | exc x S1 =>
    rw [q] at hg
    intro cls dx H1 al1 p r
    rw [muO_muA p.sub] at r
    exact hg cls dx H1 O al1 (Step.ofPost p.weak) (r.less fun a z => z.elim .inl fun z => .inr (.inl z))
  | bad =>
    rw [q] at hg
    exact hg
/-- targets = value -/
theorem ss_unpG {s : Stmt} {te : TE} {t : Tg} {c : CE} (hb : c.isBor = false) (h : PS X s (tAsg te (tGt X.K t))) (q : ∀ σ H Q, tD X.K ca (WO Ex) L.pu c.isBor (ev L c) σ H Q → te σ H Q) : SS X ca Ex M0 L s (.unp t c) := imS h fun D σ H h => by
  obtain ⟨O, al, S, r, he, hs, hg⟩ := h
  have hg : GoalS X.K ca L.pu Ex M0 O al S H ((ev L c r >>= fun o => match bindTg t o.d r with
    | some r' => pure (.nx r')
    | none => M.bad) S) D.nx D.rt := hg
  refine q _ _ _ (ofE he hs hg fun o S1 al1 v H1 p ro e1 s1 g1 => ?_)
  rw [hb] at ro
  cases qb : bindTg t o.d r with
  | none => rw [qb] at g1; exact g1.elim
  | some r' =>
    rw [qb] at g1
    refine ⟨_, al1, o.d, r, r', e1.env, ro.rep s1, qb, fun σ' e2 w2 => ?_⟩
    exact GoalS.nx (show GoalS X.K ca L.pu Ex M0 O al1 S1 H1 (.ok (.nx r') S1) D.nx D.rt from g1) (Step.refl s1) (e1.bind qb e2 w2)
/-- a, b = x, y -/
theorem ss_par2 {s : Stmt} {i j : Nat} {a b : Expr} {c d : CE} (hcb : c.isBor = false) (hdb : d.isBor = false) (h : ∀ ta, PA X [a, b] ta → PS X s (tPar i j ta)) (pa : plainE a = true) (pb : plainE b = true) (h1 : SE X ca (WO Ex) L a c) (h2 : SE X ca (WO Ex) L b d) : SS X ca Ex M0 L s (.par2 i j c d) := imS (h _ (pa_cons h1 (pa_cons h2 pa_nil (star1 pb)) (star1 pa))) fun D σ H h => by
  obtain ⟨O, al, S, r, he, hs, hg⟩ := h
  have hg : GoalS X.K ca L.pu Ex M0 O al S H ((if (c.isBor || d.isBor) = true then M.bad else (ev L c r >>= fun x => ev L d r >>= fun y => pure (.nx ((r.set i (.v x.d)).set j (.v y.d)))) : M Fl) S) D.nx D.rt := hg
  rw [if_neg (by rw [hcb, hdb]; simp)] at hg
  refine ofE he hs hg fun o1 S1 al1 v1 H1 p1 r1 e1 s1 g1 => ?_
  refine ofE e1 s1 g1 fun o2 S2 al2 v2 H2 p2 r2 e2 s2 g2 => ?_
  rw [hcb] at r1
  rw [hdb] at r2
  have r1' := (r1.rep s1).go (p2.goes s1)
  rw [muO_muA p2.sub] at r1'
  exact ⟨v1, v2, rfl, GoalS.nx (show GoalS X.K ca L.pu Ex M0 O al2 S2 H2 (.ok (.nx _) S2) D.nx D.rt from g2) (Step.refl s2) ((e2.setV i r1').setV j (r2.rep s2))⟩
theorem starN' {pos : Pos} : ∀ {es : List Expr} {env : Env}, es.all plainE = true → (backTo pos (starEach es env)).all (fun x => !x.1) = true
  | [], _, _ => rfl
  | e :: es, env, h => by
    rw [List.all_cons, Bool.and_eq_true] at h
    rw [star1 h.1]
    show (true && (backTo pos (starEach es env)).all (fun x => !x.1)) = true
    rw [starN' h.2]
    rfl
/-- name.append(e) -/
theorem ss_app {i : Nat} {x : Str} {np ap cp : Pos} {e : Expr} {c : CE} (hb : c.isBor = false) (hN : X.N[i]? = some x) (hv : Vis X.env.scope x) (hd : (x == ("__debug__" : Str)) = false) (hcd : (x == ("__classdict__" : Str)) = false) (hp : plainE e = true) (h : SE X ca (WO Ex) L e c) (hline : (ap.endLine == cp.line) = true) :
    SS X ca Ex M0 L (.Expr (.Call (.Attribute (.Name x np) "append" ap) [e] [] cp) pos) (.app i c) := imS (ps_expr (pe_bm PySem.F.plainAttrs_list PySem.F.slot_list_append PySem.F.type_list_append mt_append (pe_var hN hv hd hcd) (pa_cons h pa_nil (star1 hp)) rfl (by rw [starN' (by rw [List.all_cons, hp]; rfl)]; rfl) hline (star1 hp) rfl)) fun D σ H h => by
  obtain ⟨O, al, S, r, he, hs, hg⟩ := h
  have hg : GoalS X.K ca L.pu Ex M0 O al S H ((match r[i]? with
    | some (.own ds) => (ev L c r >>= fun x => if ds.length < sizeLine then pure (.nx (r.set i (.own (ds ++ [x.d])))) else M.bad)
    | _ => M.bad : M Fl) S) D.nx D.rt := hg
  cases qi : r[i]? with
  | none => rw [qi] at hg; exact hg.elim
  | some sl =>
    rw [qi] at hg
    cases sl with
    | un => exact hg.elim
    | v _ => exact hg.elim
    | own ds =>
      obtain ⟨a, xs, g1, g2, g3, g4, g5⟩ := he.env.ow i ds qi
      refine ⟨_, g1, .inl ⟨rfl, xs, SqL.of g2⟩, ?_⟩
      refine ofE he hs hg fun o S1 al1 v H1 p ro e1 s1 h1 => ?_
      rw [hb] at ro
      obtain ⟨a', xs', k1, k2, k3, k4, k5⟩ := e1.env.ow i ds qi
      rw [g1] at k1
      cases k1
      split at h1
      · rename_i hl
        obtain ⟨st, en⟩ := e1.updO (pu := L.pu) s1 qi g1 (k3.append (.cons (ro.rep s1) .nil))
        exact ⟨a, xs', v, rfl, rfl, k2, by rw [k3.length]; exact hl, GoalS.nx (show GoalS X.K ca L.pu Ex M0 O al1 S1 H1 (.ok (.nx _) S1) D.nx D.rt from h1) st en⟩
      · exact h1.elim
/-- name.extend(e) -/
theorem ss_ext {i : Nat} {x : Str} {np ap cp : Pos} {e : Expr} {c : CE} (hN : X.N[i]? = some x) (hv : Vis X.env.scope x) (hd : (x == ("__debug__" : Str)) = false) (hcd : (x == ("__classdict__" : Str)) = false) (hp : plainE e = true) (h : SE X ca (WO Ex) L e c) (hline : (ap.endLine == cp.line) = true) :
    SS X ca Ex M0 L (.Expr (.Call (.Attribute (.Name x np) "extend" ap) [e] [] cp) pos) (.ext i c) := imS (ps_expr (pe_bm PySem.F.plainAttrs_list PySem.F.slot_list_extend PySem.F.type_list_extend mt_extend (pe_var hN hv hd hcd) (pa_cons h pa_nil (star1 hp)) rfl (by rw [starN' (by rw [List.all_cons, hp]; rfl)]; rfl) hline (star1 hp) rfl)) fun D σ H h => by
  obtain ⟨O, al, S, r, he, hs, hg⟩ := h
  have hg : GoalS X.K ca L.pu Ex M0 O al S H ((match r[i]? with
    | some (.own ds) => (ev L c r >>= fun x => match x.d with
      | .list xs => if ds.length + xs.length ≤ sizeLine then pure (.nx (r.set i (.own (ds ++ xs)))) else M.bad
      | _ => M.bad)
    | _ => M.bad : M Fl) S) D.nx D.rt := hg
  cases qi : r[i]? with
  | none => rw [qi] at hg; exact hg.elim
  | some sl =>
    rw [qi] at hg
    cases sl with
    | un => exact hg.elim
    | v _ => exact hg.elim
    | own ds =>
      obtain ⟨a, xs, g1, g2, g3, g4, g5⟩ := he.env.ow i ds qi
      refine ⟨_, g1, .inl ⟨rfl, xs, SqL.of g2⟩, ?_⟩
      refine ofE he hs hg fun o S1 al1 v H1 p ro e1 s1 h1 => ?_
      have ro := ro.repB s1
      obtain ⟨a', xs', k1, k2, k3, k4, k5⟩ := e1.env.ow i ds qi
      rw [g1] at k1
      cases k1
      generalize o.d = d at h1 ro
      cases d with
      | list es =>
        obtain ⟨b, zs, rfl, b2, b3⟩ := ro.list
        dsimp only at h1
        split at h1
        · rename_i hl
          obtain ⟨st, en⟩ := e1.updO (pu := L.pu) s1 qi g1 (k3.append b3)
          exact ⟨a, b, xs', zs, rfl, rfl, k2, b2, by rw [k3.length, b3.length]; exact hl, GoalS.nx (show GoalS X.K ca L.pu Ex M0 O al1 S1 H1 (.ok (.nx _) S1) D.nx D.rt from h1) st en⟩
        · exact h1.elim
      | _ => exact h1.elim
/-- o[i] = e -/
theorem ss_setI {o i e : Expr} {co ci ce : CE} {sp tp : Pos} (h1 : co.isBor = false) (h2 : ci.isBor = false) (h3 : ce.isBor = false) (ho : SE X ca (WO Ex) L o co) (hi : SE X ca (WO Ex) L i ci) (he : SE X ca (WO Ex) L e ce) (hps : ∀ {te : TE} {g : TG}, PE X e te → PG X (.Subscript o i tp) g → PS X (.Assign [.Subscript o i tp] e sp) (tAsg te g))
    (hpg : ∀ {to ti : TE} {t : TSet}, PE X o to → PE X i ti → PSet X t → PG X (.Subscript o i tp) (gSub to ti t)) : SS X ca Ex M0 L (.Assign [.Subscript o i tp] e sp) (.setI co ci ce) := imS (hps he (hpg ho hi set_list)) fun D σ H h => by
  obtain ⟨O, al, S, r, he, hs, hg⟩ := h
  have hg : GoalS X.K ca L.pu Ex M0 O al S H ((ev L ce r >>= fun x => ev L co r >>= fun y => ev L ci r >>= fun z => (fun S => if L.pu = true then .bad else match setV S y.d z.d x.d with
      | some S' => .ok (.nx r) S'
      | none => .bad : M Fl)) S) D.nx D.rt := hg
  refine ofE he hs hg fun x S1 al1 v1 H1 p1 r1 e1 s1 g1 => ?_
  refine ofE e1 s1 g1 fun y S2 al2 v2 H2 p2 r2 e2 s2 g2 => ?_
  refine ofE e2 s2 g2 fun z S3 al3 v3 H3 p3 r3 e3 s3 g3 => ?_
  rw [h3] at r1
  rw [h1] at r2
  rw [h2] at r3
  have r1 := (r1.rep s1).go (p2.goes s1)
  rw [muO_muA p2.sub] at r1
  have r1 := r1.go (p3.goes s2)
  rw [muO_muA p3.sub] at r1
  have r2 := (r2.rep s2).go (p3.goes s2)
  rw [muO_muA p3.sub] at r2
  have r3 := r3.rep s3
  cases hpu : L.pu with
  | true => rw [hpu] at g3; exact g3.elim
  | false =>
    rw [hpu] at g3
    generalize y.d = dy at g3 r2
    generalize z.d = dz at g3 r3
    generalize x.d = dx at g3 r1
    cases dy with
    | loc n =>
      cases dz with
      | int k =>
        have g3 : GoalS X.K ca false Ex M0 O al3 S3 H3 (match (match S3[n]? with
    | some (.lst xs) => (L2.ixN xs.length k).map fun j => S3.set n (.lst (xs.set j dx))
    | _ => none) with
      | some S' => .ok (.nx r) S'
      | none => .bad) D.nx D.rt := g3
        cases qn : S3[n]? with
        | none => rw [qn] at g3; exact g3.elim
        | some so =>
          rw [qn] at g3
          cases so with
          | dct _ => exact g3.elim
          | ins _ _ => exact g3.elim
          | lst ds =>
            dsimp only at g3
            cases qj : L2.ixN ds.length k with
            | none => rw [qj] at g3; exact g3.elim
            | some j =>
              rw [qj] at g3
              cases r2 with
              | loc hal =>
                rename_i a
                cases r3
                obtain ⟨vs, b1, b2⟩ := s3.ob n _ a qn hal
                refine ⟨a, vs, k, j, rfl, rfl, b1, by rw [b2.length]; exact qj, ?_⟩
                have g3 : GoalS X.K ca false Ex M0 O al3 S3 H3 (.ok (.nx r) (S3.set n (.lst (ds.set j dx)))) D.nx D.rt := g3
                have hal' : a ∈ al3 := List.mem_of_getElem? hal
                have go : Goes X.K (MuO M0 al3 O) (MuO M0 al3 O) al3 al3 H3 (upd H3 a (.lst (vs.set j v1))) := ⟨fun b o nb q _ => by
                  have : b ≠ a := fun z => nb (.inr (.inl (by rw [z]; exact hal')))
                  rw [upd_ne this]
                  exact q, fun _ _ h _ _ => h, fun _ _ h => h⟩
                have st : StR X.K ca (MuO M0 al3 O) al3 (S3.set n (.lst (ds.set j dx))) (upd H3 a (.lst (vs.set j v1))) := {
                  len := by rw [List.length_set]; exact s3.len
                  nd := s3.nd
                  mu := s3.mu
                  tr := fun b m => by
                    by_cases z : b = a
                    · rw [z, upd_same]; trivial
                    · rw [upd_ne z]; exact s3.tr b m
                  ob := fun m o b q1 q2 => by
                    by_cases z : n = m
                    · subst z
                      rw [hal] at q2
                      cases q2
                      rw [List.getElem?_set, if_pos rfl] at q1
                      split at q1
                      · cases q1
                        exact ⟨_, upd_same, Reps.go go (Reps.set r1 j b2)⟩
                      · cases q1
                    · rw [List.getElem?_set_ne z] at q1
                      have nb : b ≠ a := fun y => by
                        subst y
                        have nd := s3.nd
                        obtain ⟨l1, l2⟩ := List.getElem?_eq_some_iff.mp hal
                        obtain ⟨l3, l4⟩ := List.getElem?_eq_some_iff.mp q2
                        exact z ((List.getElem_inj (h₀ := l1) (h₁ := l3) nd).mp (l2.trans l4.symm))
                      have q := s3.ob m o b q1 q2
                      cases o with
                      | lst es =>
                        obtain ⟨ws, h4, h5⟩ := q
                        exact ⟨ws, by rw [upd_ne nb]; exact h4, Reps.go go h5⟩
                      | dct _ => exact q
                      | ins _ _ => exact q
                  tb := tabs_upd s3.tb b1
                  xd := xd_upd s3.xd b1
                  xr := fun z hz => (s3.xr z hz).go go }
                refine GoalS.nx g3 ⟨fun b o q1 _ q3 _ => by rw [upd_ne (fun (z : b = a) => q1 (by rw [z]; exact hal'))]; exact q3, fun q h => ?_, fun _ h => h, fun _ h => .inl h, ⟨[], by simp, fun _ h => by cases h⟩, st, fun z => by cases z⟩ ⟨?_, e3.own, e3.dis⟩
                · intro o e nt
                  by_cases z : q = a
                  · exact h _ (by rw [z, upd_same]) nt_lst
                  · exact h o (by rw [upd_ne z]; exact e) nt
                exact e3.env.go go (fun b o q1 q3 _ => by rw [upd_ne (fun (z : b = a) => q1 (by rw [z]; exact hal'))]; exact q3) (fun _ h => h) (fun _ h => .inl h)
      | _ => exact g3.elim
    | _ => exact g3.elim
/-- for -/
theorem ss_for {tg it : Expr} {t : Tg} {ci : CI} {body : List Stmt} {cb : CB} (hnb : ci.nb = true) (hp : PassesOwn (model X.prog X.w) X.A X.env X.xe) (hc : X.calm = true) (hi : SI X ca (WO Ex) L tg it ci) (hg : PG X tg (tGt X.K t)) (hb : SB X ca Ex M0 L body cb) (hs : ∀ x, foldedSetIterable it X.env x = pure x) :
    SS X ca Ex M0 L (.For tg it body [] pos) (.for_ t ci cb) := imS (ps_for hp hc hi hg hb hs) fun D σ H h => by
  obtain ⟨O, al, S, r, he, hs, hg⟩ := h
  have hg : GoalS X.K ca L.pu Ex M0 O al S H ((evI L ci r >>= fun xs => forGo (fun x r => match bindTg t x r with
      | some r' => exB L cb r'
      | none => M.bad) xs r) S) D.nx D.rt := hg
  refine ⟨_, al, S, r, he.env, hs, GoalS.seq (Rel1 := RIt X.K ci.nb) hg fun items S1 al1 J H1 p hi g => ?_⟩
  have s1 := (Step.ofPost p).st
  have e1 := he.post hs p
  obtain ⟨hlen, G, Y, w, hG, hY⟩ := hi
  rw [hnb] at hG
  have hd : ∀ a, M0 a → ∃ o, H1 a = some o := fun a m => s1.trd (.inl m)
  generalize hf : (fun (x : Pb.D) (r : Rho) => match bindTg t x r with
      | some r' => exB L cb r'
      | none => M.bad) = f at g
  refine for_it w (fun i σ' H' => ∃ O' al' S' r', Step X.K ca L.pu M0 O al1 S1 O' al' S' H1 H' ∧ EnvS X.K M0 O' al' r' σ' H' ∧ GoalS X.K ca L.pu Ex M0 O' al' S' H' (forGo f (items.drop i) r' S') D.nx D.rt) ?_ ?_ ?_ ?_
  · exact ⟨O, al1, S1, r, Step.refl s1, e1, g⟩
  · rintro i σ' H' _ ⟨O', al', S', r', st, _⟩
    exact hG H' (fun _ b o n q => st.ext b o (fun z => n (.inr (.inl z))) (fun z => n (.inr (.inr z))) q) (fun z => by cases z)
  · rintro i x σ' H' H2 hlt ⟨O', al', S', r', st, e', g'⟩ y
    obtain ⟨hsame, hr⟩ := hY i x items[i] H' H2 _ al' (by simp [hlt]) (st.goes hd) (fun a m => st.st.trd m) y
    have hdr : items.drop i = items[i] :: items.drop (i + 1) := List.drop_eq_getElem_cons hlt
    rw [hdr] at g'
    have p2 : Post X.K ca L.pu (MuO M0 al' O') al' S' al' S' H' H2 := Post.same st.st hsame
    have st2 := Step.ofPost p2
    have g2 := GoalS.later st2 g'
    have e2 := e'.post st.st p2
    have g2 : GoalS X.K ca L.pu Ex M0 O' al' S' H2 ((f items[i] r' >>= fun z => match z with | .nx r'' => forGo f (items.drop (i + 1)) r'' | .rt o => pure (.rt o)) S') D.nx D.rt := g2
    rw [← hf] at g2
    dsimp only at g2
    cases qb : bindTg t items[i] r' with
    | none => rw [qb] at g2; exact g2.elim
    | some r'' =>
      rw [qb] at g2
      refine ⟨_, al', items[i], r', r'', e2.env, hr, qb, fun σ3 e3 w3 => ⟨O', al', S', r'', e2.bind qb e3 w3, st2.st, ?_⟩⟩
      refine GoalS.then g2 fun r4 S4 al4 O4 σ4 H4 st4 e4 g4 => ⟨O4, al4, S4, r4, (st.trans st2).trans st4, e4, ?_⟩
      rw [hf] at g4
      exact g4
  · rintro σ' H' ⟨O', al', S', r', st, e', g'⟩
    rw [List.drop_length] at g'
    exact GoalS.nx (show GoalS X.K ca L.pu Ex M0 O' al' S' H' (.ok (.nx r') S') D.nx D.rt from g') (Step.refl st.st) e'
/-- while -/
theorem ss_while {e : Expr} {c : CE} {body : List Stmt} {cb : CB} (hp : PassesOwn (model X.prog X.w) X.A X.env X.xe) (hc : ST X ca (WO Ex) L e c) (hb : SB X ca Ex M0 L body cb) : SS X ca Ex M0 L (.While e body [] pos) (.while_ c cb) := imS (ps_while hp hc hb) fun D σ H h => by
  obtain ⟨O, al, S, r, he, hs, hg⟩ := h
  have hg : GoalS X.K ca L.pu Ex M0 O al S H (whileGo (evB L c) (exB L cb) 100000 r S) D.nx D.rt := hg
  refine ⟨fun m σ H => ∃ O al S r, EnvS X.K M0 O al r σ H ∧ StR X.K ca (MuO M0 al O) al S H ∧ GoalS X.K ca L.pu Ex M0 O al S H (whileGo (evB L c) (exB L cb) m r S) D.nx D.rt, ⟨_, O, al, S, r, he, hs, hg⟩, ?_⟩
  rintro m σ H ⟨O, al, S, r, he, hs, hg⟩
  cases m with
  | zero => exact hg.elim
  | succ m =>
    have hg : GoalS X.K ca L.pu Ex M0 O al S H ((evB L c r >>= fun t => if t = true then (exB L cb r >>= fun z => match z with | .nx r' => whileGo (evB L c) (exB L cb) m r' | .rt o => pure (.rt o)) else pure (.nx r)) S) D.nx D.rt := hg
    refine ⟨_, al, S, r, he.env, hs, GoalS.seq (Rel1 := RBool) hg fun t S1 al1 v H1 p ro g => ?_⟩
    have ro : v = t := ro
    subst ro
    have s1 := (Step.ofPost p).st
    have e1 := he.post hs p
    cases v with
    | true =>
      rw [if_pos rfl] at g ⊢
      refine ⟨fun σ H => ∃ O al S r, EnvS X.K M0 O al r σ H ∧ StR X.K ca (MuO M0 al O) al S H ∧ GoalS X.K ca L.pu Ex M0 O al S H (whileGo (evB L c) (exB L cb) m r S) D.nx D.rt, fun σ' H' q => ⟨m, Nat.lt_succ_self m, q⟩, O, al1, S1, r, e1, s1, ?_⟩
      exact GoalS.then (k := whileGo (evB L c) (exB L cb) m) g fun r4 S4 al4 O4 σ4 H4 st4 e4 g4 => ⟨O4, al4, S4, r4, e4, st4.st, g4⟩
    | false =>
      rw [if_neg (by simp)] at g ⊢
      exact GoalS.nx (show GoalS X.K ca L.pu Ex M0 O al1 S1 H1 (.ok (.nx r) S1) D.nx D.rt from g) (Step.refl s1) e1
end
end Pb
end

section
set_option Elab.async false
set_option linter.all false
set_option maxRecDepth 100000
set_option maxHeartbeats 1000000
/-! Defs. -/
namespace Pb
open PySem PySem.Spec PyProof.Rows L2
section
variable {X : Cx} {ca : Ca} {Ex : XK} {M0 : Addr → Prop} {L : Lk} {pos : Pos}
theorem ss_never {s : Stmt} : SS X ca Ex M0 L s .never := imS ps_never fun D σ H h => by
  obtain ⟨O, al, S, r, he, hs, hg⟩ := h
  exact hg
/-- a new list that may be changed by all -/
theorem ss_retL {es : List Expr} {as : CA} {lpos : Pos} (h : SA X ca (WO Ex) L es as) : SS X ca Ex M0 L (.Return (some (.List es lpos)) pos) (.retL as) := imS (ps_ret (pe_lst h)) fun D σ H h => by
  obtain ⟨O, al, S, r, he, hs, hg⟩ := h
  have hg : GoalS X.K ca L.pu Ex M0 O al S H ((if as.nb = true then (evA L as r >>= fun ds => (fun S => if L.pu = true then .bad else if ds.length ≤ sizeLine then .ok (.rt (.v (.loc S.length))) (S ++ [.lst ds]) else .bad)) else M.bad : M Fl) S) D.nx D.rt := hg
  cases hn : as.nb with
  | false => rw [hn] at hg; exact hg.elim
  | true =>
    rw [hn, if_pos rfl] at hg
    refine ⟨_, al, S, r, he.env, hs, GoalS.seq (Rel1 := RArgs X.K as.nb) hg fun ds S1 al1 vs H1 p1 r1 g1 => ?_⟩
    have r1 := r1.2 hn
    have s1 := (Step.ofPost p1).st
    cases hpu : L.pu with
    | true => rw [hpu] at g1; exact g1.elim
    | false =>
      rw [hpu, if_neg (by simp)] at g1
      split at g1
      · rename_i hz
        refine ⟨by rw [r1.length]; exact hz, fun p hp => ?_⟩
        have np : ∀ a, MuO M0 al1 O a → a ≠ p := fun a m z => by
          obtain ⟨o, q⟩ := s1.trd m
          rw [z, hp] at q
          cases q
        have go : Goes X.K (MuO M0 al1 O) (MuO M0 (al1 ++ [p]) O) al1 (al1 ++ [p]) H1 (upd H1 p (.lst vs)) := {
          st := fun a o _ e _ => same_upd hp a o e
          mu := fun a o n e nt z => by
            rcases z with z | z | z
            · exact n (.inl z)
            · rcases List.mem_append.mp z with z | z
              · exact n (.inr (.inl z))
              · rw [List.mem_singleton.mp z, hp] at e
                cases e
            · exact n (.inr (.inr z))
          al := fun n a e => by
            rw [List.getElem?_append_left (List.getElem?_eq_some_iff.mp e).1]
            exact e }
        have st : StR X.K ca (MuO M0 (al1 ++ [p]) O) (al1 ++ [p]) (S1 ++ [.lst ds]) (upd H1 p (.lst vs)) := {
          len := by rw [List.length_append, List.length_append, s1.len]; rfl
          nd := List.nodup_append.mpr ⟨s1.nd, by simp, fun a ha b hb => by
            rw [List.mem_singleton.mp hb]
            exact np a (.inr (.inl ha))⟩
          mu := fun a h => .inr (.inl h)
          tr := fun a m => by
            by_cases z : a = p
            · rw [z, upd_same]; trivial
            · rw [upd_ne z]
              refine s1.tr a ?_
              rcases m with m | m | m
              · exact .inl m
              · rcases List.mem_append.mp m with m | m
                · exact .inr (.inl m)
                · exact absurd (List.mem_singleton.mp m) z
              · exact .inr (.inr m)
          ob := fun n o a h1 h2 => by
            by_cases hn : n < al1.length
            · rw [List.getElem?_append_left hn] at h2
              rw [List.getElem?_append_left (by rw [← s1.len]; exact hn)] at h1
              have q := s1.ob n o a h1 h2
              cases o with
              | lst es =>
                obtain ⟨ws, h4, h5⟩ := q
                exact ⟨ws, same_upd hp _ _ h4, Reps.go go h5⟩
              | dct _ => exact q
              | ins _ _ => exact q
            · have h1l := (List.getElem?_eq_some_iff.mp h1).1
              rw [List.length_append, List.length_singleton, ← s1.len] at h1l
              have e : n = al1.length := by omega
              rw [e, List.getElem?_append_right (Nat.le_refl _), Nat.sub_self] at h2
              rw [e, s1.len, List.getElem?_append_right (Nat.le_refl _), Nat.sub_self] at h1
              cases h1
              cases h2
              exact ⟨vs, upd_same, Reps.go go r1⟩
          tb := s1.tb.ext (same_upd hp)
          xd := fun z hz => same_upd hp _ _ (s1.xd z hz)
          xr := fun z hz => (s1.xr z hz).go go }
        refine (show GoalS X.K ca false Ex M0 O al1 S1 H1 (.ok (.rt (.v (.loc S1.length))) (S1 ++ [.lst ds])) D.nx D.rt from g1) _ _ O (al1 ++ [p]) ?_ ?_
        · exact ⟨fun b o _ _ q _ => same_upd hp b o q, free_same (same_upd hp), fun _ h => h, fun _ h => .inl h, ⟨[p], rfl, fun a h => by rw [List.mem_singleton.mp h]; exact fre_none hp⟩, st, fun z => by cases z⟩
        · exact .loc (by rw [← s1.len, List.getElem?_append_right (Nat.le_refl _), Nat.sub_self]; rfl)
      · exact g1.elim
end
/-! ### defs -/
theorem start_rep {K : PySem.W.Frag} {ca : Ca} {Mu : Addr → Prop} {al : List Addr} {S : List SO} {H : Hp} {N : List Str} {vs : List V} {ds : List D} {ns : Nat} (hs : StR K ca Mu al S H) (r : Reps K Mu al H vs ds) (hns : ns = N.length) :
    EnvS K Mu (fun _ => False) al (start0 ns ds) (L2.start N vs) H := by
  have hm : MuO Mu al (fun _ => False) = Mu := by
    funext a
    exact propext ⟨fun z => z.elim id fun z => z.elim (hs.mu a) False.elim, .inl⟩
  have no : ∀ (i : Nat) (es : List D), (start0 ns ds)[i]? ≠ some (.own es) := fun i es h => by
    unfold start0 at h
    have := List.mem_of_getElem? h
    rcases List.mem_append.mp this with h | h
    · obtain ⟨d, _, e⟩ := List.mem_map.mp h
      cases e
    · have := List.eq_of_mem_replicate h
      cases this
  refine ⟨⟨?_, fun i d h => ?_, fun i es h => absurd h (no i es), fun i j es fs a _ h => absurd h (no i es)⟩, fun i es a h => absurd h (no i es), fun _ h => h.elim⟩
  · unfold start0 L2.start
    simp only [List.length_append, List.length_map, List.length_replicate, r.length, hns]
  · rw [hm]
    unfold start0 at h
    unfold L2.start
    by_cases hi : i < ds.length
    · rw [List.getElem?_append_left (by simpa using hi), List.getElem?_map] at h
      cases q : ds[i]? with
      | none => rw [q] at h; cases h
      | some e =>
        rw [q] at h
        cases h
        obtain ⟨v, h1, h2⟩ := r.get q
        refine ⟨v, ?_, h2⟩
        rw [List.getElem?_append_left (by simpa [r.length] using hi), List.getElem?_map, h1]
        rfl
    · rw [List.getElem?_append_right (by simpa using Nat.not_lt.mp hi)] at h
      have := List.eq_of_mem_replicate (List.mem_of_getElem? h)
      cases this
theorem stR_fin {K : PySem.W.Frag} {ca : Ca} {Mu O : Addr → Prop} {al : List Addr} {S : List SO} {H : Hp} (s : StR K ca (MuO Mu al O) al S H) : StR K ca (MuA Mu al) al S H := by
  have le : ∀ a, MuA Mu al a → MuO Mu al O a := fun a z => z.elim .inl fun z => .inr (.inl z)
  refine ⟨s.len, s.nd, fun a h => .inr h, fun a m => s.tr a (le a m), fun n o a h1 h2 => ?_, s.tb, s.xd, fun z hz => (s.xr z hz).less le⟩
  have q := s.ob n o a h1 h2
  cases o with
  | lst es =>
    obtain ⟨ws, h4, h5⟩ := q
    exact ⟨ws, h4, h5.less le⟩
  | dct _ => exact q
  | ins _ _ => exact q
theorem Step.post {K : PySem.W.Frag} {ca : Ca} {pu : Bool} {Mu O : Addr → Prop} {al al1 : List Addr} {S S1 : List SO} {H H1 : Hp} (s : Step K ca pu Mu (fun _ => False) al S O al1 S1 H H1) : Post K ca pu Mu al S al1 S1 H H1 :=
  ⟨fun b o h => s.ext b o h (fun z => z), s.free, s.app, stR_fin s.st, fun hp => by
    obtain ⟨a1, a2, a3⟩ := s.pur hp
    exact ⟨a1, a2, fun b o => a3 b o (fun z => z)⟩⟩
abbrev cxD (P : Program) (w : World) (K : PySem.W.Frag) (mg : Str → Option Value) (base : Heap) (N : List Str) (qual : Str) (sc : Scope) (f : Addr) (cdv : Value) (A : Around) (outer : List Env) (s : Shared) (H : Hp) (E : XK) : Cx := cxOf (L2.CX P w) P w K mg base N qual sc f cdv A outer s H E
theorem takesD {P : Program} {w : World} {K : PySem.W.Frag} {mg : Str → Option Value} {base : Heap} {N : List Str} {qual : Str} {sc : Scope} {f : Addr} {cdv : Value} {A : Around} {outer : List Env} {s : Shared} {H : Hp} {E : XK} : Takes (cxD P w K mg base N qual sc f cdv A outer s H E) (WO E) :=
  takes_of (X := cxD P w K mg base N qual sc f cdv A outer s H E) rfl rfl rfl rfl
theorem passD {P : Program} {w : World} {K : PySem.W.Frag} {mg : Str → Option Value} {base : Heap} {N : List Str} {qual : Str} {sc : Scope} {f : Addr} {cdv : Value} {A : Around} {outer : List Env} {s : Shared} {H : Hp} {E : XK} : PassesOwn (model (cxD P w K mg base N qual sc f cdv A outer s H E).prog (cxD P w K mg base N qual sc f cdv A outer s H E).w) (cxD P w K mg base N qual sc f cdv A outer s H E).A (cxD P w K mg base N qual sc f cdv A outer s H E).env (cxD P w K mg base N qual sc f cdv A outer s H E).xe :=
  passes_of (X := cxD P w K mg base N qual sc f cdv A outer s H E) rfl
/-- the def at the name x keeps to what its run says, to the depth n -/
structure FnAt (P : Program) (w : World) (K : PySem.W.Frag) (mg : Str → Option Value) (base : Heap) (ca : Ca) (T : Tb) (n : Nat) (x : Str) (fn : Fn) (p : Bool) (f : Addr) (fd : FuncData) (ps : List Str) : Prop where
  ok : FnOk P w K mg base (L2.CX P w) (3 * n) f fd ps (spF K ca p (callN T n p fn))
  mg : mg x = some (.ref f)
  kp : PySem.W.keepIn K (.ref f) = true
  pur : purOf T fn = some p
theorem FnAt.fin {X : Cx} {ca : Ca} {T : Tb} {n : Nat} {x : Str} {fn : Fn} {p : Bool} {f : Addr} {fd : FuncData} {ps : List Str} (h : FnAt X.prog X.w X.K X.mg X.base ca T n x fn p f fd ps) : FnIn X ca T n (3 * n) x fn p f fd ps := ⟨h.ok, h.mg, h.kp, h.pur⟩
section
variable {P : Program} {w : World} {K : PySem.W.Frag} {mg : Str → Option Value} {base : Heap} {ca : Ca} {T : Tb} {n : Nat} {x qual : Str} {fn : Fn} {p : Bool} {f : Addr} {fd : FuncData} {N ps : List Str} {params : Arguments} {body : List Stmt} {sc : Scope} {dvs : List V} {kws : List (Str × V)} {d : FD}
theorem FnOk.bad {sp : Sp} {k : Nat} (h : ∀ vs H Q E, ¬ sp vs H Q E) : FnOk P w K mg base (L2.CX P w) k f fd ps sp :=
  ⟨fun vs H Q E q => (h vs H Q E q).elim, fun A outer s H args us vs Q E _ _ _ _ q => (h vs H Q E q).elim⟩
theorem fnAt_zero (hm : mg x = some (.ref f)) (hk : PySem.W.keepIn K (.ref f) = true) (hp : purOf T fn = some p) : FnAt P w K mg base ca T 0 x fn p f fd ps :=
  ⟨FnOk.bad fun vs H Q E h => by
    obtain ⟨Mu, al, S, ds, _, _, hg⟩ := h
    exact hg, hm, hk, hp⟩
/-- a def's body is walked once -/
theorem fn_mk (F : FunD K x qual params body sc dvs kws f fd) (S : FnScope N ps sc) (hpr : T.pr fn = none) (hfd : T.fd fn = some d) (hnp : d.np = ps.length) (hns : d.ns = N.length) (hm : mg x = some (.ref f))
    (hb : ∀ (cdv : Value) (A : Around) (outer : List Env) (s : Shared) (H : Hp) (E : XK) (M0 : Addr → Prop), fd.code = cdv → Room (3 * n + 2) (A.deeper (envOfC qual sc s.heap.objs.size f cdv)) →
      SB (cxD P w K mg base N qual sc f cdv A outer s H E) ca E M0 ⟨d.pu, callN T n d.pu, callN T n true, T.lo⟩ body d.body) : FnAt P w K mg base ca T (n + 1) x fn d.pu f fd ps := by
  have hrun : callN T (n + 1) d.pu fn = runF ⟨d.pu, callN T n d.pu, callN T n true, T.lo⟩ d := by
    funext as
    show (match T.pr fn with
    | some (q, g) => if (d.pu && !q) = true then M.bad else g as
    | none => match T.fd fn with
      | some d' => if (d.pu && !d'.pu) = true then M.bad else runF ⟨d'.pu, callN T n d'.pu, callN T n true, T.lo⟩ d' as
      | none => M.bad) = _
    rw [hpr]
    show (match T.fd fn with
      | some d' => if (d.pu && !d'.pu) = true then M.bad else runF ⟨d'.pu, callN T n d'.pu, callN T n true, T.lo⟩ d' as
      | none => M.bad) = _
    rw [hfd]
    show (if (d.pu && !d.pu) = true then M.bad else runF ⟨d.pu, callN T n d.pu, callN T n true, T.lo⟩ d as) = _
    rw [if_neg (by cases d.pu <;> simp)]
  refine ⟨?_, hm, F.kp, by unfold purOf; rw [hpr, hfd]; rfl⟩
  rw [hrun]
  show FnOk P w K mg base (L2.CX P w) (3 * n + 2 + 1) f fd ps _
  obtain ⟨oc, od, dV, kV, doc, pm, an, cdv, ct, osl, rfl, lk, hcd, _, _⟩ := F.ex
  refine fn_of lk hcd S (fun vs H Q E h => ?_) fun A outer s H vs Q E hr h => ?_
  · obtain ⟨Mu, al, S, ds, hr, _, hg⟩ := h
    rw [hr.length, ← hnp]
    unfold runF at hg
    split at hg
    · assumption
    · exact hg.elim
  · obtain ⟨Mu, al, S, ds, hr', hs, hg⟩ := h
    refine ⟨_, hb cdv A outer s H E Mu rfl hr, fun _ => False, al, S, start0 d.ns ds, start_rep hs hr' hns, ?_, ?_⟩
    · have hmu : MuO Mu al (fun _ => False) = Mu := by
        funext a
        exact propext ⟨fun z => z.elim id fun z => z.elim (hs.mu a) False.elim, .inl⟩
      rw [hmu]
      exact hs
    · unfold runF at hg
      split at hg
      · have e : (exB ⟨d.pu, callN T n d.pu, callN T n true, T.lo⟩ d.body (start0 d.ns ds) >>= fun z => match z with
            | .nx _ => pure (.v .non)
            | .rt o => pure o) S = M.bind (exB ⟨d.pu, callN T n d.pu, callN T n true, T.lo⟩ d.body (start0 d.ns ds)) (fun z => match z with
            | .nx _ => pure (.v .non)
            | .rt o => pure o) S := rfl
        have hg : Goal K ca d.pu E Mu al S H (ROut K false) (M.bind (exB ⟨d.pu, callN T n d.pu, callN T n true, T.lo⟩ d.body (start0 d.ns ds)) (fun z => match z with
            | .nx _ => pure (.v .non)
            | .rt o => pure o) S) Q := hg
        unfold M.bind at hg
        cases q : exB ⟨d.pu, callN T n d.pu, callN T n true, T.lo⟩ d.body (start0 d.ns ds) S with
        | bad => rw [q] at hg; exact hg
        | exc x S' =>
          rw [q] at hg
          exact fun cls dx H' O' al' st e => hg cls dx H' al' st.post e
        | ok fl S' =>
          rw [q] at hg
          cases fl with
          | nx r' => exact fun σ' H' O' al' st e => hg .non H' al' st.post (OutB.of .non)
          | rt o =>
            refine fun v H' O' al' st e => hg v H' al' st.post (OutB.of ?_)
            cases o with
            | v dd => exact e
            | own es =>
              obtain ⟨p', xs, h1, h2, h3, h4, h5, h6⟩ := e
              exact ⟨p', xs, h1, h2.elim id False.elim, fun z => z.elim h3 h4, h5, h6⟩
      · exact hg.elim
/-- one keyword-only argument, written -/
theorem FunD.kbn {ks : List Str} {m : Nat} (F : FunD K x qual params body sc [] kws f fd)
    (h : ∀ (kV doc pm : Value) (an : Option Addr) (cdv ct : Value) (us ws : List Value), us.length = m → ws.length = ks.length → bindArgs (PySem.W.fnOf x qual params body sc .none kV doc pm an cdv ct) ⟨us, ks.zip ws⟩ = pure (ps.zip (us ++ ws))) : KBn K fd ps m ks (fun us ws => us ++ ws) (fun vs zs => vs ++ zs) := by
  obtain ⟨oc, od, dV, kV, doc, pm, an, cdv, ct, osl, rfl, lk, hcd, hD, hK⟩ := F.ex
  rcases hD with ⟨_, rfl⟩ | ⟨e, _⟩
  · exact ⟨fun s us ws _ h1 h2 => .of_eq (h kV doc pm an cdv ct us ws h1 h2), fun h1 h2 => h1.append h2⟩
  · exact absurd rfl e
end
end Pb
end

section
set_option Elab.async false
set_option linter.all false
set_option maxRecDepth 100000
set_option maxHeartbeats 1000000
/-! sorted by a key that a lambda gives. -/
namespace Pb
open PySem PySem.Spec PyProof.Rows L2
/-! ### a lambda's call, over the heap alone -/
section
variable {prog : Program} {w : World} {A : Around} {env : Env} {h0 : Heap}
/-- it's evaluated, all that stood stands -/
def HP (prog : Program) (w : World) (A : Around) (env : Env) (h0 : Heap) (e : Expr) (P : Value → Heap → Prop) : Prop := ∀ s : Shared, (∀ b o, h0.get? b = some o → s.heap.get? b = some o) →
  wpAny (model prog w) A (eval e env) (fun v s' => ∃ h' tk, s' = { s with heap := h', toks := tk } ∧ (∀ b o, s.heap.get? b = some o → h'.get? b = some o) ∧ P v h') (fun _ _ => False) s
theorem hp_var {y : Str} {v : Value} {m : Str → Option Value} {pos : Pos} (hk : env.scope.kind = .function) (hl : env.kindOf y = some .local) (hn : h0.Ns env.locals m) (hv : m y = some v) (hd : (y == ("__debug__" : Str)) = false) : HP prog w A env h0 (.Name y pos) (fun u _ => u = v) :=
  fun s k => wpAny_Name (wpAny_loadName_local hk hl (hn.keeps k) hv ⟨s.heap, s.toks, rfl, fun _ _ h => h, rfl⟩) hd
theorem hp_len {e : Expr} {np pos : Pos} {mg mb : Str → Option Value} {items : Array Value} {t : Addr} (hk : env.scope.kind = .function) (hg : env.kindOf "len" = some .globalImplicit) (hG : h0.Ns env.globals mg) (hm : mg "len" = none) (hB : h0.Ns env.builtins mb) (hv : mb "len" = some (.builtin "len"))
    (hp : plainE e = true) (ht : IsTup h0 t items) (hz : (items.size : Int) < 2 ^ 63) (h : HP prog w A env h0 e (fun u _ => u = .ref t)) : HP prog w A env h0 (.Call (.Name "len" np) [e] [] pos) (fun u _ => ∃ tk, u = .int items.size tk) := by
  intro s k
  refine wpAny_Call_Name_kw (Calls.Name_function_global hk hg (Calls.loadGlobal_builtin (hG.keeps k) hm (hB.keeps k) hv ?_))
  refine PyProof.Rows.callWith_builtin1 ?_ (star1 hp) rfl
  rw [star1 hp]
  show wpAny _ _ (spliced ((false, eval e env) :: backTo pos (starEach [] env))) _ _ s
  refine Calls.spliced_cons (wpAny_mono (h s k) (fun u s1 hq => ?_) fun _ _ z => z)
  obtain ⟨h1, t1, rfl, k1, rfl⟩ := hq
  refine Calls.spliced_nil ?_
  exact PyProof.Rows.len_tuple (ht.keeps fun b o q => k1 b o (k b o q)) hz ⟨_, _, rfl, k1, _, rfl⟩
theorem hp_tup2 {e1 e2 : Expr} {kk : Nat} {pos : Pos} {d1 d2 : PyData} {P1 P2 : Value → Heap → Prop} (p1 : plainE e1 = true) (p2 : plainE e2 = true) (h1 : HP prog w A env h0 e1 P1) (h2 : HP prog w A env h0 e2 P2)
    (r1 : ∀ v h h', (∀ b o, h0.get? b = some o → h.get? b = some o) → (∀ b o, h.get? b = some o → h'.get? b = some o) → P1 v h → Reads h' v d1 []) (r2 : ∀ v h h', (∀ b o, h0.get? b = some o → h.get? b = some o) → (∀ b o, h.get? b = some o → h'.get? b = some o) → P2 v h → Reads h' v d2 []) :
    HP prog w A env h0 (.Tuple [e1, e2] kk pos) (fun u h' => Reads h' u (.tuple [d1, d2]) []) := by
  intro s k
  refine wpAny_Tuple_spliced ?_
  rw [star1 p1, star1 p2]
  show wpAny _ _ (spliced ((false, eval e1 env) :: (false, eval e2 env) :: backTo pos (starEach [] env))) _ _ s
  refine Calls.spliced_cons (wpAny_mono (h1 s k) (fun u s1 hq => ?_) fun _ _ z => z)
  obtain ⟨g1, t1, rfl, k1, q1⟩ := hq
  have k01 : ∀ b o, h0.get? b = some o → g1.get? b = some o := fun b o q => k1 b o (k b o q)
  refine Calls.spliced_cons (wpAny_mono (h2 { s with heap := g1, toks := t1 } k01) (fun u2 s2 hq => ?_) fun _ _ z => z)
  obtain ⟨g2, t2, rfl, k2, q2⟩ := hq
  have k02 : ∀ b o, h0.get? b = some o → g2.get? b = some o := fun b o q => k2 b o (k01 b o q)
  refine Calls.spliced_nil ⟨by show 2 ≤ sizeLine; rw [sizeLine_eq]; omega, _, t2, rfl, fun b o q => Heap.get?_push_of_some _ (k2 b o (k1 b o q)), ?_⟩
  have a1 := r1 u g1 (g2.push { cls := .type "tuple", data := .seq [u, u2].toArray }) k01 (fun b o q => Heap.get?_push_of_some _ (k2 b o q)) q1
  have a2 := r2 u2 g2 (g2.push { cls := .type "tuple", data := .seq [u, u2].toArray }) k02 (fun b o q => Heap.get?_push_of_some _ q) q2
  exact .tuple (Heap.get?_push_size _ rfl) rfl rfl (.cons a1 (.cons a2 .nil))
/-- the call -/
theorem lam_key {s : Shared} {f c' : Addr} {qual y : Str} {params : Arguments} {body : Expr} {scope : Scope} {cl : List (Str × Addr)} {pm ctv v : Value} {key : PyData} (hf : s.heap.get? f = some (PySem.W.kla_obj "<lambda>" qual params body scope cl pm c' ctv)) (hcd : s.heap.CodeRec (.ref c') qual) (hroom : A.depth < recursionLimit) (hnl : s.heap.NoLimit)
    (hbind : bindArgs (PySem.W.kla_fn "<lambda>" qual params body scope cl pm (.ref c') ctv) ⟨[v], []⟩ = pure [(y, v)]) (hk : scope.kind = .function) (hco : scope.isCoroutine = false) (hgen : scope.isGenerator = false) (hcell : ∀ x ∈ scope.names, x.2 ≠ .cell) (hloc : scope.names.lookup y = some .local)
    (hbody : ∀ (A' : Around) (L : Addr) (h₁ : Heap), (∀ b o, s.heap.get? b = some o → h₁.get? b = some o) → h₁.Ns L (fun x => [(y, v)].reverse.lookup x) → HP prog w A' (PySem.W.envX qual scope L f (.ref c') cl) h₁ body (fun u h' => Reads h' u key [])) :
    wpAny (model prog w) A (call (.ref f) [v]) (PySem.W.KeyPure key s) (fun _ _ => False) s := by
  refine wpAny_call (codeAny_mono (R := fun r s' => match r with
    | .ok (.ret u) => PySem.W.KeyPure key s u s'
    | _ => False) ?_ fun r s' hq => ?_)
  · refine PySem.W.kla_callFunE hroom hf rfl hco hgen rfl hcd ?_
    rw [hbind]
    refine wpAny_pure (wpAny_newFunctionEnv hcell (fun z hz => by rw [List.mem_singleton.mp hz]; exact hloc) (fun h₁ hns hsb => ⟨hnl.fresh _ hsb, ?_⟩) hk)
    show codeAny _ _ (.expr body (PySem.W.envX qual scope s.heap.objs.size f (.ref c') cl)) _ _
    have kp : ∀ b o, s.heap.get? b = some o → h₁.get? b = some o := fun b o e => hsb.extBut b o (Nat.ne_of_lt (Heap.lt_size e)) (Heap.get?_push_of_some _ e)
    refine PySem.W.kla_codeExpr (wpAny_mono (hbody _ _ h₁ kp hns _ fun _ _ q => q) (fun u s' hq => ?_) fun _ _ z => z.elim)
    obtain ⟨h', tk, rfl, k1, q⟩ := hq
    exact ⟨h', tk, rfl, fun b o e => k1 b o (kp b o e), q⟩
  · cases r with
    | error e => exact hq.elim
    | ok fl =>
      cases fl with
      | ret u => exact hq
      | next => exact hq.elim
      | brk => exact hq.elim
      | cont => exact hq.elim
end
end Pb
end

section
set_option Elab.async false
set_option linter.all false
set_option maxRecDepth 100000
set_option maxHeartbeats 1000000
/-! sorted by a key that a lambda gives: the order; the rule. -/
namespace Pb
open PySem PySem.Spec PyProof.Rows L2
/-! ### the order -/
theorem klt_lt : ∀ a b : List Int, klt a b = decide (a < b)
  | [], [] => by simp [klt]
  | [], y :: ys => by simp [klt]
  | x :: xs, [] => by simp [klt]
  | x :: xs, y :: ys => by
    have ih := klt_lt xs ys
    have e : (x :: xs < y :: ys) ↔ (x < y ∨ (x = y ∧ xs < ys)) := List.cons_lt_cons_iff
    rw [show klt (x :: xs) (y :: ys) = (decide (x < y) || (decide (x = y) && klt xs ys)) from rfl, ih]
    by_cases h1 : x < y <;> by_cases h2 : x = y <;> by_cases h3 : xs < ys <;> simp [e, h1, h2, h3] <;> omega
theorem klt_asym {a b : List Int} (h : klt a b = true) : klt b a = false := by
  rw [klt_lt, decide_eq_true_eq] at h
  rw [klt_lt, decide_eq_false_iff_not]
  exact List.lt_asymm h
/-- the key as data -/
def keyP : SK → D → PyData
  | .self, .tuple xs => .tuple [.int xs.length, .tuple (D.pys xs)]
  | .fst, .tuple (.tuple xs :: _) => .tuple [.int xs.length, .tuple (D.pys xs)]
  | .shr, .tuple (.tuple xs :: .int p :: _) => .tuple [.int (0 - p), .int xs.length, .tuple (D.pys xs)]
  | _, _ => .none
theorem ints_pys : ∀ {xs : List D} {ns : List Int}, D.ints xs = some ns → D.pys xs = ns.map PyData.int ∧ xs = ns.map D.int
  | [], ns, h => by cases h; exact ⟨rfl, rfl⟩
  | .int i :: xs, ns, h => by
    have h : (D.ints xs).map (i :: ·) = some ns := h
    cases q : D.ints xs with
    | none => rw [q] at h; cases h
    | some ms =>
      rw [q] at h
      cases h
      obtain ⟨h1, h2⟩ := ints_pys q
      exact ⟨by show D.py (.int i) :: D.pys xs = _; rw [h1]; rfl, by rw [h2]; rfl⟩
  | .non :: _, _, h => by cases h
  | .bool _ :: _, _, h => by cases h
  | .str _ :: _, _, h => by cases h
  | .list _ :: _, _, h => by cases h
  | .tuple _ :: _, _, h => by cases h
  | .loc _ :: _, _, h => by cases h
  | .scr _ :: _, _, h => by cases h
  | .clo _ :: _, _, h => by cases h
/-- what a key looks like -/
theorem keyI_form {k : SK} {d : D} {i : List Int} (h : keyI k d = some i) : ∃ ns : List Int, (k ≠ .shr ∧ i = (ns.length : Int) :: ns ∧ keyP k d = .tuple [.int ns.length, .tuple (ns.map .int)]) ∨ ∃ p, k = .shr ∧ i = (0 - p) :: (ns.length : Int) :: ns ∧ keyP k d = .tuple [.int (0 - p), .int ns.length, .tuple (ns.map .int)] := by
  have tup : ∀ {xs : List D} {f : List Int → List Int}, (D.ints xs).map f = some i → ∃ ns, D.ints xs = some ns ∧ i = f ns := fun {xs f} h => by
    cases q : D.ints xs with
    | none => rw [q] at h; cases h
    | some ns => rw [q] at h; cases h; exact ⟨ns, rfl, rfl⟩
  unfold keyI at h
  split at h
  · obtain ⟨ns, h1, h2⟩ := tup h
    obtain ⟨e1, e2⟩ := ints_pys h1
    have hl : ∀ xs : List D, xs = ns.map D.int → xs.length = ns.length := fun xs e => by rw [e, List.length_map]
    refine ⟨ns, .inl ⟨by simp, by rw [h2, hl _ e2], ?_⟩⟩
    show PyData.tuple [.int _, .tuple (D.pys _)] = _
    rw [e1, hl _ e2]
  · obtain ⟨ns, h1, h2⟩ := tup h
    obtain ⟨e1, e2⟩ := ints_pys h1
    have hl : ∀ xs : List D, xs = ns.map D.int → xs.length = ns.length := fun xs e => by rw [e, List.length_map]
    refine ⟨ns, .inl ⟨by simp, by rw [h2, hl _ e2], ?_⟩⟩
    show PyData.tuple [.int _, .tuple (D.pys _)] = _
    rw [e1, hl _ e2]
  · obtain ⟨ns, h1, h2⟩ := tup h
    obtain ⟨e1, e2⟩ := ints_pys h1
    have hl : ∀ xs : List D, xs = ns.map D.int → xs.length = ns.length := fun xs e => by rw [e, List.length_map]
    refine ⟨ns, .inr ⟨_, rfl, by rw [h2, hl _ e2], ?_⟩⟩
    show PyData.tuple [.int _, .int _, .tuple (D.pys _)] = _
    rw [e1, hl _ e2]
  · cases h
open PySem.W in
theorem alikeInts : ∀ xs ys : List Int, alikeAll (xs.map .int) (ys.map .int) = true
  | [], _ => by simp [alikeAll]
  | _ :: _, [] => by simp [alikeAll]
  | x :: xs, y :: ys => by simp [alikeAll, alike, alikeInts xs ys]
theorem eqvInts : ∀ xs ys : List Int, PyData.eqvAll (xs.map .int) (ys.map .int) = decide (xs = ys)
  | [], [] => by simp [PyData.eqvAll]
  | [], y :: ys => by simp [PyData.eqvAll]
  | x :: xs, [] => by simp [PyData.eqvAll]
  | x :: xs, y :: ys => by
    simp only [List.map_cons, PyData.eqvAll, PyData.eqv, eqvInts xs ys]
    by_cases h1 : x = y <;> by_cases h2 : xs = ys <;> simp [h1, h2]
open PySem.W in
theorem dataLt_key {k : SK} {a b : D} {i j : List Int} (ha : keyI k a = some i) (hb : keyI k b = some j) : alike (keyP k a) (keyP k b) = true ∧ dataLt (keyP k a) (keyP k b) = klt i j := by
  have two : ∀ ns ms : List Int, dataLt (.tuple [.int ns.length, .tuple (ns.map .int)]) (.tuple [.int ms.length, .tuple (ms.map .int)]) = klt ((ns.length : Int) :: ns) ((ms.length : Int) :: ms) := fun ns ms => by
    rw [dataLt_pair (by simp [alike]) (by simp [alike, alikeInts]), dataLt_int, dataLt_tuple]
    have e := dataLt_ints ns ms
    unfold rowLt at e
    rw [e]
    rw [show klt ((ns.length : Int) :: ns) ((ms.length : Int) :: ms) = (decide ((ns.length : Int) < ms.length) || (decide ((ns.length : Int) = ms.length) && klt ns ms)) from rfl, klt_lt]
    simp only [PyData.eqv, eqvInts, beq_iff_eq]
    by_cases h1 : (ns.length : Int) = ms.length
    · rw [if_pos h1]
      by_cases h2 : ns = ms
      · rw [h2]; simp [List.lt_irrefl]
      · rw [if_neg (by simpa using h2)]
        simp [h1]
    · rw [if_neg h1]
      simp [h1]
  obtain ⟨ns, hn⟩ := keyI_form ha
  obtain ⟨ms, hm⟩ := keyI_form hb
  rcases hn with ⟨k1, e1, e2⟩ | ⟨p, k1, e1, e2⟩
  · rcases hm with ⟨k2, f1, f2⟩ | ⟨q, k2, f1, f2⟩
    · rw [e2, f2, e1, f1]
      exact ⟨by simp [alike, alikeAll, alikeInts], two ns ms⟩
    · exact absurd k2 k1
  · rcases hm with ⟨k2, f1, f2⟩ | ⟨q, k2, f1, f2⟩
    · exact absurd k1 k2
    · rw [e2, f2, e1, f1]
      refine ⟨by simp [alike, alikeAll, alikeInts], ?_⟩
      rw [dataLt_tuple, dataLt_cons (by simp [alike])]
      have t := two ns ms
      rw [dataLt_tuple] at t
      rw [t, dataLt_int]
      rw [show klt ((0 - p) :: (ns.length : Int) :: ns) ((0 - q) :: (ms.length : Int) :: ms) = (decide (0 - p < 0 - q) || (decide (0 - p = 0 - q) && klt ((ns.length : Int) :: ns) ((ms.length : Int) :: ms))) from rfl]
      generalize klt ((ns.length : Int) :: ns) ((ms.length : Int) :: ms) = z
      generalize 0 - p = p'
      generalize 0 - q = q'
      simp only [PyData.eqv, beq_iff_eq]
      by_cases h1 : p' = q'
      · rw [if_pos h1, h1]
        simp
      · rw [if_neg h1]
        simp [h1]
/-! ### what's sorted -/
theorem insK_perm (p : List Int × D) : ∀ l : List (List Int × D), (insK p l).Perm (p :: l)
  | [] => List.Perm.refl _
  | q :: r => by
    unfold insK
    split
    · exact List.Perm.refl _
    · exact ((insK_perm p r).cons q).trans (List.Perm.swap p q r)
theorem sortK_perm : ∀ l : List (List Int × D), (sortK l).Perm l
  | [] => List.Perm.refl _
  | p :: r => (insK_perm p (sortK r)).trans ((sortK_perm r).cons p)
theorem keyed_ok {k : SK} : ∀ {xs : List D} {ps : List (List Int × D)}, keyed k xs = some ps → ps.map (·.2) = xs ∧ ∀ p ∈ ps, keyI k p.2 = some p.1
  | [], ps, h => by cases h; exact ⟨rfl, fun _ h => by cases h⟩
  | d :: ds, ps, h => by
    have h : (match keyI k d, keyed k ds with | some i, some r => some ((i, d) :: r) | _, _ => none) = some ps := h
    cases q1 : keyI k d with
    | none => rw [q1] at h; cases h
    | some i =>
      cases q2 : keyed k ds with
      | none => rw [q1, q2] at h; cases h
      | some r =>
        rw [q1, q2] at h
        cases h
        obtain ⟨h1, h2⟩ := keyed_ok q2
        refine ⟨by rw [List.map_cons, h1], fun p hp => ?_⟩
        rcases List.mem_cons.mp hp with e | hp
        · rw [e]; exact q1
        · exact h2 p hp
theorem upK_ok : ∀ {l : List (List Int × D)}, upK l = true → l.Pairwise fun p q => klt p.1 q.1 = true
  | [], _ => .nil
  | p :: r, h => by
    have h : (r.all (fun q => klt p.1 q.1) && upK r) = true := h
    rw [Bool.and_eq_true, List.all_eq_true] at h
    exact .cons (fun q hq => h.1 q hq) (upK_ok h.2)
/-- the sorted list is the one that the model leaves -/
theorem sort_eq {k : SK} {xs : List D} {ps : List (List Int × D)} (h : keyed k xs = some ps) (u : upK (sortK ps) = true) : xs.mergeSort (PySem.W.dataLe false (keyP k)) = (sortK ps).map (·.2) := by
  obtain ⟨h1, h2⟩ := keyed_ok h
  have hk : ∀ p ∈ sortK ps, keyI k p.2 = some p.1 := fun p hp => h2 p ((sortK_perm ps).mem_iff.mp hp)
  have hp : ((sortK ps).map (·.2)).Perm xs := by
    rw [← h1]
    exact (sortK_perm ps).map _
  have hle : ∀ a b : List Int × D, a ∈ sortK ps → b ∈ sortK ps → PySem.W.dataLe false (keyP k) a.2 b.2 = !klt b.1 a.1 := fun a b ha hb => by
    show (!PySem.W.dataLt (keyP k b.2) (keyP k a.2)) = _
    rw [(dataLt_key (hk b hb) (hk a ha)).2]
  have pw := upK_ok u
  refine List.Perm.eq_of_pairwise (le := fun a b => PySem.W.dataLe false (keyP k) a b = true) ?_ (List.pairwise_mergeSort (fun a b c => (PySem.W.sortLe_total _ _ _).trans a b c) (fun a b => Bool.or_eq_true_iff.mpr ((PySem.W.sortLe_total _ _ _).total a b)) xs) ?_ ((List.mergeSort_perm _ _).trans hp.symm)
  · intro a b ha hb l1 l2
    have ha := hp.mem_iff.mpr ((List.mergeSort_perm _ _).mem_iff.mp ha)
    obtain ⟨pa, ma, rfl⟩ := List.mem_map.mp ha
    obtain ⟨pb, mb, rfl⟩ := List.mem_map.mp hb
    rw [hle pa pb ma mb, Bool.not_eq_true'] at l1
    rw [hle pb pa mb ma, Bool.not_eq_true'] at l2
    have tri : ∀ {l : List (List Int × D)}, (l.Pairwise fun p q => klt p.1 q.1 = true) → pa ∈ l → pb ∈ l → pa = pb ∨ klt pa.1 pb.1 = true ∨ klt pb.1 pa.1 = true := fun {l} h => by
      induction h with
      | nil => intro h; cases h
      | cons h _ ih =>
        intro m1 m2
        rcases List.mem_cons.mp m1 with e1 | m1
        · rcases List.mem_cons.mp m2 with e2 | m2
          · exact .inl (e1.trans e2.symm)
          · rw [e1]; exact .inr (.inl (h _ m2))
        · rcases List.mem_cons.mp m2 with e2 | m2
          · rw [e2]; exact .inr (.inr (h _ m1))
          · exact ih m1 m2
    rcases tri pw ma mb with e | e | e
    · rw [e]
    · rw [l2] at e; cases e
    · rw [l1] at e; cases e
  · rw [List.pairwise_map]
    refine List.Pairwise.imp_of_mem (R := fun p q => klt p.1 q.1 = true) (fun {a b} ma mb hab => ?_) pw
    rw [hle a b ma mb, klt_asym hab]
    rfl
end Pb
end

section
set_option Elab.async false
set_option linter.all false
set_option maxRecDepth 100000
set_option maxHeartbeats 1000000
/-! sorted(e, key=lambda y: (len(y), y)). -/
namespace Pb
open PySem PySem.Spec PyProof.Rows L2
theorem boot_sorted : bootBuiltins "sorted" = some (.builtin "sorted") := by decide +kernel
/-- ints, as they stand -/
theorem ints_vals {K : PySem.W.Frag} {Mu : Addr → Prop} {al : List Addr} {H : Hp} : ∀ {ys : List V} {ns : List Int} {its : List Value}, Reps K Mu al H ys (ns.map D.int) → Vals ys its → IntsAre its ns
  | _, [], _, .nil, .nil => .nil
  | _, n :: ns, _, .cons r t, .cons rv tv => by
    cases r
    obtain ⟨tk, rfl⟩ := rv
    exact .cons _ _ (ints_vals t tv)
theorem ints_reads {h : Heap} : ∀ {its : List Value} {ns : List Int}, IntsAre its ns → ReadsAll h its (ns.map .int) []
  | _, _, .nil => .nil
  | _, _, .cons _ _ t => .cons (as := []) (.int _ _) (ints_reads t)
theorem key_depth {k : SK} {d : D} {i : List Int} (h : keyI k d = some i) : (keyP k d).depth ≤ 2 := by
  have dl : ∀ ns : List Int, PyData.depthAll (ns.map .int) = 0 := fun ns => by
    induction ns with
    | nil => rfl
    | cons n ns ih => simp [PyData.depthAll, PyData.depth, ih]
  obtain ⟨ns, ⟨_, _, e⟩ | ⟨p, _, _, e⟩⟩ := keyI_form h
  · rw [e]; simp [PyData.depth, PyData.depthAll, dl]
  · rw [e]; simp [PyData.depth, PyData.depthAll, dl]
/-- the list and its data, side by side -/
theorem each_of {K : PySem.W.Frag} {Mu : Addr → Prop} {al : List Addr} {H : Hp} : ∀ {xs : List V} {ds : List D} {its : List Value}, Reps K Mu al H xs ds → Vals xs its → PySem.W.EachIs (fun u d => ∃ v, RelV v u ∧ Rep K Mu al H v d) its ds
  | _, _, _, .nil, .nil => .nil
  | _, _, _, .cons r t, .cons rv tv => .cons ⟨_, rv, r⟩ (each_of t tv)
theorem each_back {K : PySem.W.Frag} {Mu : Addr → Prop} {al : List Addr} {H : Hp} : ∀ {its : List Value} {ds : List D}, PySem.W.EachIs (fun u d => ∃ v, RelV v u ∧ Rep K Mu al H v d) its ds → ∃ xs, Vals xs its ∧ Reps K Mu al H xs ds
  | _, _, .nil => ⟨[], .nil, .nil⟩
  | _, _, .cons ⟨v, r1, r2⟩ t => by
    obtain ⟨xs, h1, h2⟩ := each_back t
    exact ⟨v :: xs, .cons r1 h1, .cons r2 h2⟩
section
variable {X : Cx} {ca : Ca} {W : WX} {L : Lk} {pos : Pos}
/-- how the key is found of an item, over the heap alone -/
def KeyOk (X : Cx) (ca : Ca) (k : SK) (y : Str) (body : Expr) (qual : Str) (scope : Scope) (cl : List (Str × Addr)) : Prop := ∀ (pins : List (Addr × Obj)) (σ : L2.St) (H : Hp) (s : Shared) (Mu : Addr → Prop) (al : List Addr) (u : Value) (v : V) (d : D) (i : List Int) (h1 : Heap) (A' : Around) (L f : Addr) (c' : Addr),
  Inv X pins σ H s → RelV v u → Rep X.K Mu al H v d → keyI k d = some i → (∀ b o, s.heap.get? b = some o → h1.get? b = some o) → h1.Ns L (fun x => [(y, u)].reverse.lookup x) → HP X.prog X.w A' (PySem.W.envX qual scope L f (.ref c') cl) h1 body (fun u h' => Reads h' u (keyP k d) [])
theorem snd_sortk {k : SK} {e : Expr} {c : CE} {np kpos lpos : Pos} {params : Arguments} {body : Expr} {scope : Scope} {y : Str} {c0 P : Addr} (hg : Gl X "sorted") (hm : X.mg "sorted" = none) (hp : plainE e = true) (h : SE X ca W L e c)
    (TB : LamX.TabB X.base X.mg c0 P) (hcode : X.env.code = .ref c0) (hmT : (P, X.env.qual ++ "<lambda>") ∈ ca.tabs) (hut : ∀ p ∈ ca.tabs, p.1 = P → p.2 = X.env.qual ++ "<lambda>") (hdef : defaultsOf params X.env = ([], []))
    (hk : scope.kind = .function) (hco : scope.isCoroutine = false) (hgen : scope.isGenerator = false) (hcell : ∀ x ∈ scope.names, x.2 ≠ .cell) (hfree : ∀ x ∈ scope.names, x.2 ≠ .free) (hloc : scope.names.lookup y = some .local)
    (hbind : ∀ (q : Str) (cl : List (Str × Addr)) (pm cv ctv u : Value), bindArgs (PySem.W.kla_fn "<lambda>" q params body scope cl pm cv ctv) ⟨[u], []⟩ = pure [(y, u)]) {n0 : Nat} (hr : Room n0 X.A)
    (hkey : ∀ cl, KeyOk X ca k y body (X.env.qual ++ "<lambda>") scope cl) :
    SE X ca W L (.Call (.Name "sorted" np) [e] [⟨some "key", .Lambda params body scope lpos, kpos⟩] pos) (.sortk k c) := by
  refine ⟨fun pins s σ H Q I h0 => ?_⟩
  obtain ⟨Mu0, al0, S0, r, he, hs0, hg0⟩ := h0
  have hg0 : Goal X.K ca L.pu _ Mu0 al0 S0 H (ROut X.K false) ((ev L c r >>= fun x => ofOpt (sortV k x.d)) S0) Q := hg0
  refine wpAny_Call_Name_kw (ld_blt I hg hm boot_sorted ?_)
  refine PyProof.Rows.callWith_kw ?_ (by rw [star1 hp]; rfl) (by rw [star1 hp]; rfl) rfl rfl
  rw [star1 hp]
  show wpAny _ _ (spliced ((false, eval e X.env) :: backTo pos (starEach [] X.env))) _ _ s
  refine Calls.spliced_cons (thn (h.run pins s σ H (fun v H1 => ∃ o S1 al1, Post X.K ca L.pu Mu0 al0 S0 al1 S1 H H1 ∧ OutB c.isBor X.K (MuA Mu0 al1) al1 H H1 v o ∧ Goal X.K ca L.pu (fun cls dx H' => W cls dx σ H') (MuA Mu0 al1) al1 S1 H1 (ROut X.K false) (ofOpt (sortV k o.d) S1) Q) I
    ⟨Mu0, al0, S0, r, he, hs0, Goal.seq mono_out hg0 fun o1 S1 al1 v1 H1 p1 r1 g1 => ⟨o1, S1, al1, p1, r1, g1⟩⟩) fun u s1 ⟨v, H1, I1, rv, o, S1, al, p1, ro, g1⟩ => ?_)
  refine Calls.spliced_nil ?_
  have hs := p1.st
  generalize MuA Mu0 al = Mu at hs ro g1
  have ro := ro.repB hs
  generalize o.d = d at ro g1
  cases qd : sortV k d with
  | none => rw [qd] at g1; exact g1.elim
  | some oo =>
    rw [qd] at g1
    have g1 : Goal X.K ca L.pu _ Mu al S1 H1 (ROut X.K false) (.ok oo S1) Q := g1
    unfold sortV at qd
    split at qd
    · rename_i ds
      split at qd
      · rename_i ps qk
        split at qd
        · rename_i qu
          cases qd
          obtain ⟨a, xs, rfl, ha, hxs⟩ := ro.list
          obtain rfl : u = Value.ref a := rv
          show wpAny _ _ (evalAll [do let v ← eval (.Lambda params body scope lpos) X.env; standAt pos; pure v]) _ _ s1
          refine wpAny_evalAll_cons (wpAny_bind (LamX.lam_make2 I1 TB hcode hmT hut hs.tb hdef (fun y hy e => absurd e (hfree y hy)) fun f c' pm ctv H2 s2 I2 eN T2 hf hfn hfr hco' => ?_))
          refine wpAny_bind (wpAny_standAt (wpAny_pure (wpAny_evalAll_nil ?_)))
          show wpAny _ _ (call (.builtin "sorted") [.ref a] [(Str.ofString "key", .ref f)]) _ _ s2
          -- at H2
          have g2 : Goes X.K Mu Mu al al H1 H2 := ⟨fun a o _ e nt => eN a o e nt, fun _ _ n _ _ => n, fun _ _ e => e⟩
          have hxs2 := Reps.go g2 hxs
          obtain ⟨its, rits, hpl, hz⟩ := I2.list (SqL.of (eN a _ ha nt_lst))
          obtain ⟨hk1, hk2⟩ := keyed_ok qk
          have hin : ∀ d ∈ ds, ∃ i, keyI k d = some i := fun d hd => by
            rw [← hk1] at hd
            obtain ⟨p, hp, rfl⟩ := List.mem_map.mp hd
            exact ⟨_, hk2 p hp⟩
          have hlen : its.length = ds.length := by rw [← rits.length, hxs2.length]
          obtain ⟨⟨oc, cvs, t, hoc, hdc, hvc⟩, _, _⟩ := I2.hok c' _ hco'
          refine PySem.W.sorted_key_data (b := false) (keyP k) (R := fun u d => ∃ v, RelV v u ∧ Rep X.K Mu al H2 v d) (bs := ds) hpl.isList (each_of hxs2 rits) ?_ ?_ ?_ ?_ (PyProof.Rows.ksk_s1 _ _) (fun _ => PyProof.Rows.ksk_l1 _ _) (fun _ => PyProof.Rows.ksk_t1 _ _) ?_ ?_
          · intro d1 m1 d2 m2
            obtain ⟨x1, n1, rfl⟩ := List.mem_map.mp m1
            obtain ⟨x2, n2, rfl⟩ := List.mem_map.mp m2
            obtain ⟨i1, e1⟩ := hin x1 n1
            obtain ⟨i2, e2⟩ := hin x2 n2
            exact (dataLt_key e1 e2).1
          · refine .inl fun d1 m1 => ?_
            obtain ⟨x1, n1, rfl⟩ := List.mem_map.mp m1
            obtain ⟨i1, e1⟩ := hin x1 n1
            obtain ⟨ns, ⟨_, _, e⟩ | ⟨p, _, _, e⟩⟩ := keyI_form e1
            · exact ⟨_, _, e⟩
            · exact ⟨_, _, e⟩
          · rw [← hlen, ← rits.length]
            exact hz
          · intro x hx
            obtain ⟨i1, e1⟩ := hin x hx
            have := key_depth e1
            have := hr.units
            omega
          · rintro u x ⟨v, rv, rx⟩ hx h tk kp
            obtain ⟨i1, e1⟩ := hin x hx
            refine lam_key (s := { s2 with heap := h, toks := tk }) (kp _ _ hf) ⟨c', oc, cvs, t, rfl, kp _ _ hoc, hdc, hvc⟩ ?_ (I2.nolimit.keeps kp) (hbind _ _ _ _ _ _) hk hco hgen hcell hloc fun A' L h₁ k1 hn => ?_
            · exact hr.depth
            · exact hkey _ pins σ H2 s2 Mu al u v x i1 h₁ A' L f c' I2 rv rx e1 (fun b o e => k1 b o (kp b o e)) hn
          · intro out c2 h' tk kp hnone hnew hlo heach
            rw [sort_eq qk qu] at heach
            obtain ⟨ws, hv, hrs⟩ := each_back heach
            have hf2 : H2 (s2.heap.objs.size + 1) = none := I2.hok.fresh (Nat.le_succ _)
            have hlw : ws.length ≤ sizeLine := by rw [hv.length, hlo, ← hlen, ← rits.length]; exact hz
            have I3 : Inv X pins σ (upd H2 (s2.heap.objs.size + 1) (.lst ws)) { s2 with heap := h', toks := tk } := I2.laid (t' := tk) kp (Nat.le_succ _) ⟨hlw, out, c2, hv, hnew⟩
            refine ⟨.ref _, _, I3, rfl, ?_⟩
            have e12 : SameN H1 (upd H2 (s2.heap.objs.size + 1) (.lst ws)) := eN.trans (LamX.ExtN.of (same_upd hf2))
            refine g1.ok (Post.sameN hs e12 (T2.ext (same_upd hf2))) (OutB.of ⟨_, ws, rfl, ?_, ?_, upd_same, ?_⟩)
            · intro o e nt
              rw [eN _ _ e nt] at hf2
              cases hf2
            · rw [muA_eq hs.mu]
              intro z
              obtain ⟨o, e, nt⟩ := mut_nt (hs.tr _ z)
              rw [eN _ _ e nt] at hf2
              cases hf2
            · rw [muA_eq hs.mu]
              exact Reps.go (Mu := Mu) {
                st := fun a o _ e nt => same_upd hf2 a o e
                al := fun _ _ e => e
                mu := fun a o n e nt z => z.elim n fun z => by
                  rw [z, hf2] at e
                  cases e } hrs
        · cases qd
      · cases qd
    · cases qd
/-- (len(y), y) -/
theorem key_self {y : Str} {scope : Scope} {qual : Str} {cl : List (Str × Addr)} {p1 p2 p3 p4 p5 : Pos} {k5 : Nat} (hk : scope.kind = .function) (hl : scope.names.lookup y = some .local) (hg : scope.names.lookup ("len" : Str) = some .globalImplicit) (hm : X.mg "len" = none) (hd : (y == ("__debug__" : Str)) = false) :
    KeyOk X ca .self y (.Tuple [.Call (.Name "len" p1) [.Name y p2] [] p3, .Name y p4] k5 p5) qual scope cl := by
  intro pins σ H s Mu al u v d i h1 A' L f c' I rv rd hi kp hn
  unfold keyI at hi
  split at hi
  · rename_i xs _
    cases q : D.ints xs with
    | none => rw [q] at hi; cases hi
    | some ns =>
      obtain ⟨e1, e2⟩ := ints_pys q
      cases rd with
      | tuple h2 h3 h4 =>
        rename_i a ys
        obtain rfl : u = Value.ref a := rv
        obtain ⟨its, ri, ht, hz⟩ := I.tuple (SqT.of h2)
        rw [e2] at h4
        have hI := ints_vals h4 ri
        have ht1 : IsTup h1 a its.toArray := ht.keeps kp
        obtain ⟨mb, b1, b2⟩ := I.mod.blt
        have hkl : xs.length = ns.length := by rw [e2, List.length_map]
        have hsz : its.toArray.size = ns.length := by rw [List.size_toArray, hI.length]
        have hzz : (its.toArray.size : Int) < 2 ^ 63 := by
          have : its.length = ys.length := ri.length.symm
          rw [List.size_toArray, this]
          rw [sizeLine_eq] at hz
          omega
        have kof : (PySem.W.envX qual scope L f (.ref c') cl).kindOf y = some .local := hl
        have hv0 : (fun x => [(y, Value.ref a)].reverse.lookup x) y = some (Value.ref a) := by simp [List.lookup]
        have var : ∀ pp, HP X.prog X.w A' (PySem.W.envX qual scope L f (.ref c') cl) h1 (.Name y pp) (fun u _ => u = .ref a) := fun pp => hp_var hk kof hn hv0 hd
        have len := hp_len (prog := X.prog) (w := X.w) (A := A') (env := PySem.W.envX qual scope L f (.ref c') cl) (np := p1) (pos := p3) (mg := X.mg) (mb := mb) hk hg ((I.mod.glob.keeps I.bk).keeps kp) hm ((b1.keeps I.bk).keeps kp) ((b2 _ (by decide)).trans PySem.boot_len) rfl ht1 hzz (var p2)
        have := hp_tup2 (kk := k5) (pos := p5) (d1 := .int ns.length) (d2 := .tuple (ns.map .int)) rfl rfl len (var p4) (fun v h h' _ _ q => by
          obtain ⟨tk, rfl⟩ := q
          rw [hsz]
          exact .int _ _) fun v h h' k1 k2 q => by
          subst q
          obtain ⟨o, ho, hc, n, hd⟩ := ht1
          exact .tuple (k2 _ _ (k1 _ _ ho)) hc hd (ints_reads hI)
        show HP _ _ _ _ _ _ (fun u h' => Reads h' u (.tuple [.int xs.length, .tuple (D.pys xs)]) [])
        rw [hkl, e1]
        exact this
  · rename_i h; cases h
  · rename_i h; cases h
  · cases hi
end
end Pb
end

section
set_option Elab.async false
set_option linter.all false
set_option maxRecDepth 100000
set_option maxHeartbeats 1000000
/-! Told again behind a change: xs = [a, b]; if not f(xs, due): return False; xs[0].append(e). -/
namespace Pb
open PySem PySem.Spec PyProof.Rows L2
section
variable {K : PySem.W.Frag} {ca : Ca} {pu : Bool} {M0 O O1 : Addr → Prop} {al al1 : List Addr} {S S1 : List SO} {H H1 : Hp} {r r' : Rho} {σ σ' : L2.St}
theorem goes_grow {p : Addr} (hsame : SameN H H1) (hp : Fre H p) : Goes K (MuO M0 al O) (MuO M0 al fun a => O a ∨ a = p) al al H H1 := {
    st := fun a o _ q nt => hsame a o q nt
    al := fun _ _ h => h
    mu := fun a o n q nt z => by
      rcases z with z | z | z
      · exact n (.inl z)
      · exact n (.inr (.inl z))
      · rcases z with z | z
        · exact n (.inr (.inr z))
        · exact hp o (by rw [← z]; exact q) nt }
/-- a new list becomes the frame's own, no slot tells it -/
theorem EnvS.grow {p : Addr} {xs : List V} (hs : StR K ca (MuO M0 al O) al S H) (e : EnvS K M0 O al r σ H) (hsame : SameN H H1) (htb : LamX.Tabs ca.tabs H1) (hp : Fre H p) (h1 : H1 p = some (.lst xs)) :
    Step K ca pu M0 O al S (fun a => O a ∨ a = p) al S H H1 ∧ EnvS K M0 (fun a => O a ∨ a = p) al r σ H1 := by
  have g : Goes K (MuO M0 al O) (MuO M0 al fun a => O a ∨ a = p) al al H H1 := goes_grow hsame hp
  have np : ∀ a, MuO M0 al O a → a ≠ p := fun a m z => by
    obtain ⟨o, q, nt⟩ := mut_nt (hs.tr a m)
    exact hp o (by rw [← z]; exact q) nt
  have st : StR K ca (MuO M0 al fun a => O a ∨ a = p) al S H1 := {
    len := hs.len
    nd := hs.nd
    mu := fun a h => .inr (.inl h)
    tr := fun a m => by
      by_cases z : a = p
      · rw [z, h1]
        trivial
      · have m' : MuO M0 al O a := by
          rcases m with m | m | m | m
          · exact .inl m
          · exact .inr (.inl m)
          · exact .inr (.inr m)
          · exact absurd m z
        have t := hs.tr a m'
        obtain ⟨o, q, nt⟩ := mut_nt t
        rw [hsame a o q nt]
        rw [q] at t
        exact t
    ob := fun n o a h2 h3 => by
      have q := hs.ob n o a h2 h3
      cases o with
      | lst ds =>
        obtain ⟨vs, h4, h5⟩ := q
        exact ⟨vs, hsame _ _ h4 nt_lst, Reps.go g h5⟩
      | dct _ => exact q
      | ins _ _ => exact q
    tb := htb
    xd := fun z hz => hsame _ _ (hs.xd z hz) nt_xd
    xr := fun z hz => (hs.xr z hz).go g }
  refine ⟨⟨fun b o _ _ q nt => hsame b o q nt, free_sameN hsame, fun _ h => .inl h, fun a h => h.imp id (fun z => by rw [z]; exact hp), ⟨[], by simp, fun _ h => by cases h⟩, st, fun _ => ⟨rfl, rfl, fun b o _ q nt => hsame b o q nt⟩⟩, ⟨⟨e.env.len, fun j d hj => ?_, fun j es hj => ?_, e.env.ap⟩, fun j es a h2 h3 => .inl (e.own j es a h2 h3), fun a h m => ?_⟩⟩
  · obtain ⟨v, h2, h3⟩ := e.env.vl j d hj
    exact ⟨v, h2, h3.go g⟩
  · obtain ⟨a, ys, h2, h3, h4, h5, h6⟩ := e.env.ow j es hj
    refine ⟨a, ys, h2, hsame _ _ h3 nt_lst, Reps.go g h4, ?_, h6⟩
    rcases h5 with h5 | h5 | h5
    · exact .inl h5
    · exact .inr (.inl h5)
    · exact .inr (.inr (.inl h5))
  · rcases h with h | h
    · exact e.dis a h m
    · exact np a (.inl m) h
/-- a slot that is not told -/
theorem EnvS.unset (i : Nat) (x : Option V) (e : EnvS K M0 O al r σ H) : EnvS K M0 O al (r.set i .un) (σ.set i x) H := by
  have key : ∀ (j : Nat) (s : Sl), (r.set i .un)[j]? = some s → s ≠ .un → r[j]? = some s ∧ i ≠ j := fun j s h n => by
    rw [List.getElem?_set] at h
    split at h
    · split at h
      · cases h; exact absurd rfl n
      · cases h
    · rename_i hn
      exact ⟨h, hn⟩
  refine ⟨⟨by rw [List.length_set, List.length_set]; exact e.env.len, fun j d hj => ?_, fun j es hj => ?_, fun j k es fs a hjk hj hk h1 => ?_⟩, fun j es a hj h2 => ?_, e.dis⟩
  · obtain ⟨h1, n⟩ := key j _ hj (by simp)
    obtain ⟨v, h2, h3⟩ := e.env.vl j d h1
    exact ⟨v, by rw [List.getElem?_set_ne n]; exact h2, h3⟩
  · obtain ⟨h1, n⟩ := key j _ hj (by simp)
    obtain ⟨a, ys, h2, h3⟩ := e.env.ow j es h1
    exact ⟨a, ys, by rw [List.getElem?_set_ne n]; exact h2, h3⟩
  · obtain ⟨g1, n1⟩ := key j _ hj (by simp)
    obtain ⟨g2, n2⟩ := key k _ hk (by simp)
    rw [List.getElem?_set_ne n1] at h1
    rw [List.getElem?_set_ne n2]
    exact e.env.ap j k es fs a hjk g1 g2 h1
  · obtain ⟨g1, n1⟩ := key j _ hj (by simp)
    rw [List.getElem?_set_ne n1] at h2
    exact e.own j es a g1 h2
/-- the change of an object of the frame's own that no slot tells -/
theorem EnvS.chg {p : Addr} {xs ys : List V} (hs : StR K ca (MuO M0 al O) al S H) (e : EnvS K M0 O al r σ H) (ho : O p) (hal : p ∉ al) (hp : H p = some (.lst xs)) (hn : ∀ (j : Nat) (es : List D), r[j]? = some (.own es) → σ[j]? ≠ some (some (.ref p))) :
    Step K ca pu M0 O al S O al S H (upd H p (.lst ys)) ∧ EnvS K M0 O al r σ (upd H p (.lst ys)) := by
  have g : Goes K (MuO M0 al O) (MuO M0 al O) al al H (upd H p (.lst ys)) := ⟨fun a o n q _ => by
    have : a ≠ p := fun z => n (.inr (.inr (z ▸ ho)))
    rw [upd_ne this]
    exact q, fun _ _ h _ _ => h, fun _ _ h => h⟩
  refine ⟨⟨fun b o _ h2 q _ => by rw [upd_ne (fun (z : b = p) => h2 (by rw [z]; exact ho))]; exact q, fun q h => ?_, fun _ h => h, fun _ h => .inl h, ⟨[], by simp, fun _ h => by cases h⟩, ⟨hs.len, hs.nd, hs.mu, fun a m => ?_, fun n o a h2 h3 => ?_, ?_, xd_upd hs.xd hp, fun z hz => (hs.xr z hz).go g⟩, fun _ => ⟨rfl, rfl, fun b o h q _ => by rw [upd_ne (fun (z : b = p) => h (by rw [z]; exact ho))]; exact q⟩⟩, ⟨⟨e.env.len, fun j d hj => ?_, fun j es hj => ?_, e.env.ap⟩, e.own, e.dis⟩⟩
  · intro o e nt
    by_cases z : q = p
    · exact h _ (by rw [z, upd_same]) nt_lst
    · exact h o (by rw [upd_ne z]; exact e) nt
  · by_cases z : a = p
    · rw [z, upd_same]
      trivial
    · rw [upd_ne z]
      exact hs.tr a m
  · have q := hs.ob n o a h2 h3
    cases o with
    | lst ds =>
      obtain ⟨vs, h4, h5⟩ := q
      have na : a ≠ p := fun z => hal (z ▸ List.mem_of_getElem? h3)
      exact ⟨vs, by rw [upd_ne na]; exact h4, Reps.go g h5⟩
    | dct _ => exact q
    | ins _ _ => exact q
  · exact tabs_upd hs.tb hp
  · obtain ⟨v, h2, h3⟩ := e.env.vl j d hj
    exact ⟨v, h2, h3.go g⟩
  · obtain ⟨a, zs, h2, h3, h4, h5, h6⟩ := e.env.ow j es hj
    have na : a ≠ p := fun z => hn j es hj (z ▸ h2)
    exact ⟨a, zs, h2, by rw [upd_ne na]; exact h3, Reps.go g h4, h5, h6⟩
end
section
variable {K : PySem.W.Frag} {ca : Ca} {pu : Bool} {M0 O : Addr → Prop} {al : List Addr} {S : List SO} {H : Hp} {Ex : XK} {N : L2.St → Hp → Prop} {T : VK}
theorem M.bind_eq {α β : Type} {m : M α} {k : α → M β} {S S1 : List SO} {a : α} (h : m S = .ok a S1) : (m >>= k) S = k a S1 := by
  show M.bind m k S = _
  unfold M.bind
  rw [h]
/-- an expression's run that changes nothing of the store, then the rest -/
theorem GoalS.seqP {α β : Type} {m : M α} {k : α → M Fl} {Rel1 : RelT α β} {Q1 : β → Hp → Prop} (h : GoalS K ca pu Ex M0 O al S H ((m >>= k) S) N T)
    (h1 : ∀ o v H1, m S = .ok o S → Post K ca true (MuO M0 al O) al S al S H H1 → Rel1 H (MuO M0 al O) al H1 v o → GoalS K ca pu Ex M0 O al S H1 (k o S) N T → Q1 v H1) : Goal K ca true Ex (MuO M0 al O) al S H Rel1 (m S) Q1 := by
  have e : (m >>= k) S = M.bind m k S := rfl
  rw [e] at h
  unfold M.bind at h
  cases q : m S with
  | ok o S1 =>
    rw [q] at h
    intro v H1 al1 p r
    obtain ⟨e1, e2, _⟩ := p.pur rfl
    subst e1 e2
    rw [muO_muA p.sub] at r
    exact h1 o v H1 q p r (GoalS.later (Step.ofPost p.weak) h)
  | exc x S1 =>
    rw [q] at h
    intro cls dx H1 al1 p r
    rw [muO_muA p.sub] at r
    exact h cls dx H1 O al1 (Step.ofPost p.weak) (r.less fun a z => z.elim .inl fun z => .inr (.inl z))
  | bad =>
    rw [q] at h
    exact h
end
section
variable {X : Cx} {ca : Ca} {Ex : XK} {M0 : Addr → Prop} {L : Lk}
theorem sb_told {T : Tb} {n lv i : Nat} {x xf : Str} {fn : Fn} {f : Addr} {fd : FuncData} {ps : List Str} {a b due e : CE} {e1 e2 edue ee : Expr} {rest : List Stmt} {cs : CB} {p1 p2 p3 p4 p5 p6 p7 p8 p9 p10 p11 p12 p13 p14 p15 p16 : Pos} {k8 k12 : Nat}
    (hab : a.isBor = false) (hbb : b.isBor = false) (hzb : due.isBor = false) (q1 : plainE e1 = true) (q2 : plainE e2 = true) (q3 : plainE edue = true) (q4 : plainE ee = true)
    (ha : SE X ca (WO Ex) L.pure e1 a) (hb : SE X ca (WO Ex) L.pure e2 b) (hz : SE X ca (WO Ex) L.pure edue due) (he' : SE X ca (WO Ex) L.pure ee e)
    (hN : X.N[i]? = some x) (hv : Vis X.env.scope x) (hd : (x == ("__debug__" : Str)) = false) (hcd : (x == ("__classdict__" : Str)) = false) (hNd : X.N.Nodup) (hx : Loc X.env.scope x) (hf : X.fn x = true ∨ X.env.scope.names.lookup x = some .local)
    (hL : L.callp = callN T n true) (F : FnIn X ca T n lv xf fn true f fd ps) (hbn : Binds X.K fd ps []) (tk : Takes X (WO Ex)) (hr : Room lv X.A) (hg : Gl X xf) (hdb : (xf == ("__debug__" : Str)) = false) (hline : (p14.endLine == p15.line) = true) (hrest : SB X ca Ex M0 L rest cs) :
    SB X ca Ex M0 L (.Assign [.Name x p1] (.List [e1, e2] p2) p3 :: .If (.UnaryOp .Not (.Call (.Name xf p4) [.Name x p5, edue] [] p6) p7) [.Return (some (.Constant (.bool false) k8 p8)) p9] [] p10 :: .Expr (.Call (.Attribute (.Subscript (.Name x p11) (.Constant (.int 0) k12 p12) p13) "append" p14) [ee] [] p15) p16 :: rest) (.cons (.told i a b fn due e) cs) := by
  refine imB (pss_cons (ps_set hNd hN hx (pe_lst (pa_cons ha (pa_cons hb pa_nil (star1 q2)) (star1 q1))) rfl hf)
    (pss_cons (ps_if (pt_not (pt_val (pe_callSD F.ok hr hg F.mg F.kp hbn .nil (fun σ => passAt tk σ) (pa_cons (pe_var hN hv hd hcd) (pa_cons hz pa_nil (star1 q3)) rfl) hdb rfl (starN (by rw [List.all_cons, q3]; rfl))))) (pss_one (ps_ret pe_bl)) pss_nil)
    (pss_cons (ps_expr (pe_bm PySem.F.plainAttrs_list PySem.F.slot_list_append PySem.F.type_list_append mt_append (pe_ix ix_list (pe_var hN hv hd hcd) pe_int (fun _ _ => rfl)) (pa_cons he' pa_nil (star1 q4)) rfl (by rw [starN' (by rw [List.all_cons, q4]; rfl)]; rfl) hline (star1 q4) rfl)) hrest))) fun D σ H h => ?_
  obtain ⟨O, al, S, r, he, hs, hg0⟩ := h
  have hg0 : GoalS X.K ca L.pu Ex M0 O al S H (((if i < r.length then (ev L.pure a r >>= fun o => ev L.pure b r >>= fun y => match o with
    | .own ds => (ev L.pure due (r.set i .un) >>= fun z => M.nox (L.callp fn [.list [.list ds, y.d], z.d]) >>= fun t => match t with
      | .v (.bool true) => (ev L.pure e (r.set i .un) >>= fun _ => if ds.length < sizeLine then pure (.nx (r.set i .un)) else M.bad)
      | .v (.bool false) => pure (.rt (.v (.bool false)))
      | _ => M.bad)
    | .v _ => M.bad) else M.bad : M Fl) >>= fun fl => match fl with | .nx r' => exB L cs r' | .rt o => pure (.rt o)) S) D.nx D.rt := hg0
  by_cases hi : i < r.length
  case neg =>
    rw [if_neg hi] at hg0
    exact hg0.elim
  rw [if_pos hi] at hg0
  rw [M.bind_assoc] at hg0
  refine ⟨_, al, S, r, he.env, hs, GoalS.seqP hg0 fun o v1 H1 eqa po ro g1 => ?_⟩
  have ro : OutB a.isBor X.K (MuO M0 al O) al H H1 v1 o := ro
  rw [hab] at ro
  have s1 := (Step.ofPost po).st
  have en1 := he.post hs po
  rw [M.bind_assoc] at g1
  refine ⟨_, al, S, r, en1.env, s1, GoalS.seqP g1 fun y v2 H2 eqb py ry g2 => ?_⟩
  have ry : OutB b.isBor X.K (MuO M0 al O) al H1 H2 v2 y := ry
  rw [hbb] at ry
  have s2 := (Step.ofPost py).st
  have en2 := en1.post s1 py
  have ry := ry.rep s2
  cases o with
  | v _ => exact g2.elim
  | own ds =>
    obtain ⟨p, xs, rfl, f1, f2, f3, f4⟩ := OutB.out ro
    have nal : p ∉ al := fun z => f2 (.inr (.inl z))
    have hp2 : H2 p = some (.lst xs) := py.ext p _ nal f3 nt_lst
    have f4' : Reps X.K (MuO M0 al O) al H2 xs ds := by
      have := (f4.less (Mu' := MuO M0 al O) fun _ z => .inl z).go (py.goes s1)
      rw [muO_muA py.sub] at this
      exact this
    refine ⟨by show 2 ≤ sizeLine; rw [sizeLine_eq]; omega, fun q hq => ?_⟩
    -- the state behind the list's making
    obtain ⟨_, _, n1⟩ := po.pur rfl
    obtain ⟨_, _, n2⟩ := py.pur rfl
    have sq : SameN H (upd H2 q (.lst [.ref p, v2])) := (n1.trans n2).trans (LamX.ExtN.of (same_upd hq))
    have tb3 : LamX.Tabs ca.tabs (upd H2 q (.lst [.ref p, v2])) := s2.tb.ext (same_upd hq)
    have npq : p ≠ q := fun z => by rw [z, hq] at hp2; cases hp2
    have hp3 : upd H2 q (.lst [.ref p, v2]) p = some (.lst xs) := by rw [upd_ne npq]; exact hp2
    obtain ⟨st3, en3⟩ := he.grow (pu := L.pu) hs sq tb3 f1 hp3
    have nalq : q ∉ al := fun z => by
      obtain ⟨u, hu⟩ := s2.trd (.inr (.inl z))
      rw [hq] at hu
      cases hu
    rw [M.bind_eq eqa, M.bind_assoc, M.bind_eq eqb] at hg0
    have g3 := GoalS.later st3 hg0
    have noown : ∀ (j : Nat) (es : List Pb.D), (r.set i .un)[j]? = some (.own es) → (σ.set i (some (V.ref q)))[j]? ≠ some (some (.ref p)) := fun j es h1 h2 => by
      by_cases z : i = j
      · subst z
        rw [List.getElem?_set, if_pos rfl] at h1
        split at h1 <;> cases h1
      · rw [List.getElem?_set_ne z] at h1 h2
        obtain ⟨a', ys, k1, k2, _⟩ := he.env.ow j es h1
        rw [h2] at k1
        cases k1
        exact f1 _ k2 nt_lst
    have en3 := en3.unset i (some (V.ref q))
    have hlenσ : i < σ.length := by rw [← he.env.len]; exact hi
    generalize hH3 : upd H2 q (.lst [.ref p, v2]) = H3 at *
    have hq3 : H3 q = some (.lst [.ref p, v2]) := by rw [← hH3]; exact upd_same
    have same23 : Same H2 H3 := by rw [← hH3]; exact same_upd hq
    dsimp only at g3
    rw [M.bind_assoc] at g3
    -- is it alike
    refine ⟨.ref q, by rw [List.getElem?_set_self hlenσ], ?_⟩
    refine ⟨_, al, S, _, en3.env, st3.st, GoalS.seqP g3 fun z v3 H4 eqz pz rz g4 => ?_⟩
    have rz : OutB due.isBor X.K (MuO M0 al fun z => O z ∨ z = p) al H3 H4 v3 z := rz
    rw [hzb] at rz
    have s4 := (Step.ofPost pz).st
    have en4 := en3.post st3.st pz
    have rz := rz.rep s4
    have hq4 : H4 q = some (.lst [.ref p, v2]) := pz.ext q _ nalq hq3 nt_lst
    have hp4 : H4 p = some (.lst xs) := pz.ext p _ nal hp3 nt_lst
    have g24 : Goes X.K (fun a => a ∈ al) (fun a => a ∈ al) al al H2 H4 := ⟨fun b o n e nt => pz.ext b o n (same23 b o e) nt, fun _ _ n _ _ => n, fun _ _ e => e⟩
    have le : ∀ (O' : Addr → Prop) (a : Addr), a ∈ al → MuO M0 al O' a := fun _ a h => .inr (.inl h)
    have rl : Rep X.K (fun a => a ∈ al) al H4 (.ref q) (.list [.list ds, y.d]) := .list hq4 nalq (.cons (.list hp4 nal (Reps.go g24 (f4'.less (le _)))) (.cons ((ry.less (le _)).go g24) .nil))
    rw [hL, M.bind_assoc] at g4
    refine ⟨fun a => a ∈ al, al, S, [.list [.list ds, y.d], z.d], .cons rl (.cons (rz.less (le _)) .nil), s4.less, ?_⟩
    have g4 : GoalS X.K ca L.pu Ex M0 (fun z => O z ∨ z = p) al S H4 (M.bind (M.nox (callN T n true fn [.list [.list ds, y.d], z.d])) (fun t => (match t with
      | .v (.bool true) => (ev L.pure e (r.set i .un) >>= fun _ => if ds.length < sizeLine then pure (.nx (r.set i .un)) else M.bad)
      | .v (.bool false) => pure (.rt (.v (.bool false)))
      | _ => M.bad : M Fl) >>= fun fl => match fl with | .nx r' => exB L cs r' | .rt o => pure (.rt o)) S) D.nx D.rt := g4
    unfold M.bind M.nox at g4
    cases qc : callN T n true fn [.list [.list ds, y.d], z.d] S with
    | bad => rw [qc] at g4; exact g4.elim
    | exc x S' => rw [qc] at g4; exact g4.elim
    | ok o5 S5 =>
      rw [qc] at g4
      intro v5 H5 al5 p5 r5
      obtain ⟨e1, e2, n5⟩ := p5.pur rfl
      subst e1 e2
      have st5 : Step X.K ca L.pu M0 (fun z => O z ∨ z = p) al5 S5 (fun z => O z ∨ z = p) al5 S5 H4 H5 := Step.ofPost (Post.sameN s4 n5 p5.st.tb)
      have en5 := en4.post s4 (Post.sameN (pu := L.pu) s4 n5 p5.st.tb)
      have hq5 := n5 _ _ hq4 nt_lst
      have hp5 := n5 _ _ hp4 nt_lst
      have g5 := GoalS.later st5 g4
      have r5 := OutB.out r5
      dsimp only at g5
      split at g5
      · -- alike: the change
        rename_i oo
        cases r5
        refine ⟨true, rfl, ?_⟩

        rw [M.bind_assoc] at g5
        refine ⟨.ref q, by rw [List.getElem?_set_self hlenσ], q, [.ref p, v2], 0, .ref p, rfl, rfl, SqL.of hq5, rfl, .inl ⟨rfl, _, SqL.of hp5⟩, ?_⟩
        refine ⟨_, al5, S5, _, en5.env, st5.st, GoalS.seqP g5 fun w v6 H6 eqw p6 r6 g6 => ?_⟩
        have hp6 : H6 p = some (.lst xs) := p6.ext p _ nal hp5 nt_lst
        have s6 := (Step.ofPost p6).st
        have en6 := en5.post st5.st p6
        split at g6
        · rename_i hz6
          obtain ⟨st7, en7⟩ := en6.chg (pu := L.pu) (ys := xs ++ [v6]) s6 (.inr rfl) nal hp6 noown
          exact ⟨p, xs, v6, rfl, rfl, hp6, by rw [f4'.length]; exact hz6, _, al5, S5, _, en7, st7.st, GoalS.later st7 g6⟩
        · exact g6.elim
      · cases r5
        refine ⟨false, rfl, ?_⟩
        exact (show GoalS X.K ca L.pu Ex M0 _ al5 S5 H5 (.ok (.rt (.v (.bool false))) S5) D.nx D.rt from g5) _ _ _ al5 (Step.refl st5.st) (.bool false)
      · exact g5.elim
end
end Pb
end

section
set_option Elab.async false
set_option linter.all false
set_option maxRecDepth 100000
set_option maxHeartbeats 1000000
/-! The rules once more, their side conditions as Bools: what the printed derivations use. -/
namespace Pb
open PySem PySem.Spec PyProof.Rows L2
def nmB (N : List Str) (sc : Scope) (i : Nat) (x : Str) : Bool := decide (N[i]? = some x) && (decide (sc.names.lookup x = some .local) || decide (sc.names.lookup x = some .cell) || decide (sc.names.lookup x = some .free)) && !(x == ("__debug__" : Str)) && !(x == ("__classdict__" : Str))
def loL (N : List Str) (sc : Scope) (i : Nat) (x : Str) : Bool := decide (N[i]? = some x) && decide (sc.names.lookup x = some .local)
def loB (fn : Str → Bool) (N : List Str) (sc : Scope) (i : Nat) (x : Str) : Bool := decide (N[i]? = some x) && (decide (sc.names.lookup x = some .local) || (decide (sc.names.lookup x = some .cell) && fn x))
def glB (sc : Scope) (x : Str) : Bool := decide (sc.names.lookup x = some .globalImplicit) && !(x == ("__debug__" : Str)) && decide (x ≠ "__name__")
theorem nmB_ok {N : List Str} {sc : Scope} {i : Nat} {x : Str} (h : nmB N sc i x = true) : N[i]? = some x ∧ Vis sc x ∧ (x == ("__debug__" : Str)) = false ∧ (x == ("__classdict__" : Str)) = false := by
  unfold nmB at h
  simp only [Bool.and_eq_true, Bool.or_eq_true, decide_eq_true_eq, Bool.not_eq_true'] at h
  obtain ⟨⟨⟨h1, h2⟩, h3⟩, h4⟩ := h
  refine ⟨h1, ?_, h3, h4⟩
  rcases h2 with (h2 | h2) | h2
  · exact .inl h2
  · exact .inr (.inl h2)
  · exact .inr (.inr h2)
theorem loL_ok {N : List Str} {sc : Scope} {i : Nat} {x : Str} (h : loL N sc i x = true) : N[i]? = some x ∧ sc.names.lookup x = some .local := by
  unfold loL at h
  simp only [Bool.and_eq_true, decide_eq_true_eq] at h
  exact h
theorem loB_ok {fn : Str → Bool} {N : List Str} {sc : Scope} {i : Nat} {x : Str} (h : loB fn N sc i x = true) : N[i]? = some x ∧ Loc sc x ∧ (fn x = true ∨ sc.names.lookup x = some .local) := by
  unfold loB at h
  simp only [Bool.and_eq_true, Bool.or_eq_true, decide_eq_true_eq] at h
  refine ⟨h.1, ?_, ?_⟩
  · rcases h.2 with h | h
    · exact .inl h
    · exact .inr h.1
  · rcases h.2 with h | h
    · exact .inr h
    · exact .inl h.2
theorem glB_ok {sc : Scope} {x : Str} (h : glB sc x = true) : sc.names.lookup x = some .globalImplicit ∧ (x == ("__debug__" : Str)) = false ∧ x ≠ "__name__" := by
  unfold glB at h
  simp only [Bool.and_eq_true, decide_eq_true_eq, Bool.not_eq_true'] at h
  exact ⟨h.1.1, h.1.2, h.2⟩
structure Ctx (X : Cx) (W : WX) (n : Nat) : Prop where
  tk : Takes X W
  rm : Room (3 * n) X.A
theorem Ctx.units {X : Cx} {W : WX} {n : Nat} (k : Ctx X W n) : X.A.units + 65 < cLine := by have := k.rm.un; omega
def CA.len : CA → Nat
  | .nil => 0
  | .cons _ r => r.len + 1
theorem evA_len {L : Lk} {r : Rho} : ∀ {as : CA} {S S' : List SO} {ds : List D}, evA L as r S = .ok ds S' → ds.length = as.len
  | .nil, S, S', ds, h => by cases h; rfl
  | .cons e t, S, S', ds, h => by
    obtain ⟨x, S1, h1, h2⟩ := M.bind_ok (show (ev L e r >>= fun x => evA L t r >>= fun xs => pure (x.d :: xs)) S = .ok ds S' from h)
    obtain ⟨xs, S2, h3, h4⟩ := M.bind_ok h2
    cases h4
    show xs.length + 1 = t.len + 1
    rw [evA_len h3]
section
variable {X : Cx} {ca : Ca} {W : WX} {L : Lk} {pos : Pos} {n : Nat} {Ex : XK} {M0 : Addr → Prop}
theorem g_var {i : Nat} {x : Str} (h : nmB X.N X.env.scope i x = true) : SE X ca W L (.Name x pos) (.var i) := snd_var (nmB_ok h).1 (nmB_ok h).2.1 (nmB_ok h).2.2.1 (nmB_ok h).2.2.2
theorem g_bor {i : Nat} {x : Str} (h : nmB X.N X.env.scope i x = true) : SE X ca W L (.Name x pos) (.bor i) := snd_bor (nmB_ok h).1 (nmB_ok h).2.1 (nmB_ok h).2.2.1 (nmB_ok h).2.2.2
theorem g_int {i : Int} {j : Nat} : SE X ca W L (.Constant (.int i) j pos) (.lit (.int i)) := snd_lit pe_int fun _ _ _ => .int i
theorem g_str {x : Str} {j : Nat} : SE X ca W L (.Constant (.str x) j pos) (.lit (.str x)) := snd_lit pe_str fun _ _ _ => .str x
theorem g_bl {b : Bool} {j : Nat} : SE X ca W L (.Constant (.bool b) j pos) (.lit (.bool b)) := snd_lit pe_bl fun _ _ _ => .bool b
theorem g_non {j : Nat} : SE X ca W L (.Constant .none j pos) (.lit .non) := snd_lit pe_non fun _ _ _ => .non
theorem g_gint {x : Str} {i : Int} (hm : ∃ t, X.mg x = some (.int i t)) (h : glB X.env.scope x = true) : SE X ca W L (.Name x pos) (.lit (.int i)) := by
  obtain ⟨t, hm⟩ := hm
  exact snd_lit (v := .int i) (pe_glob (v := .int i) (glB_ok h).1 hm ⟨t, rfl⟩ (glB_ok h).2.1) fun _ _ _ => .int i
theorem g_neg {i : Int} {e : Expr} (h : PE X e (tC (.int i))) : SE X ca W L e (.lit (.int i)) := snd_lit h fun _ _ _ => .int i
theorem g_cmp {a b : Expr} {c d : CE} {op : Cop} (k : Ctx X W n) (hb' : behindInMarks (copOf op) b = false) (ha : SE X ca W L a c) (hb : SE X ca W L b d) : SE X ca W L (.Compare a [copOf op] [b] pos) (.cmp op c d) := snd_cmp k.units hb' ha hb
theorem gt_cmp {a b : Expr} {c d : CE} {op : Cop} (k : Ctx X W n) (hb' : behindInMarks (copOf op) b = false) (ha : SE X ca W L a c) (hb : SE X ca W L b d) : ST X ca W L (.Compare a [copOf op] [b] pos) (.cmp op c d) := st_cmp k.units hb' ha hb
theorem g_chain {a b c : Expr} {ca' cb cc : CE} {o p : Cop} (k : Ctx X W n) (hm : lastMarks [copOf o, copOf p] [b, c] = false) (ha : SE X ca W L a ca') (hb : SE X ca W L b cb) (hc : SE X ca W L c cc) : SE X ca W L (.Compare a [copOf o, copOf p] [b, c] pos) (.chain o p ca' cb cc) := snd_chain k.units hm ha hb hc
theorem gt_chain {a b c : Expr} {ca' cb cc : CE} {o p : Cop} (k : Ctx X W n) (hm : lastMarks [copOf o, copOf p] [b, c] = false) (ha : SE X ca W L a ca') (hb : SE X ca W L b cb) (hc : SE X ca W L c cc) : ST X ca W L (.Compare a [copOf o, copOf p] [b, c] pos) (.chain o p ca' cb cc) := st_chain k.units hm ha hb hc
theorem ga_cons {e : Expr} {es : List Expr} {c : CE} {as : CA} (hp : plainE e = true) (h : SE X ca W L e c) (t : SA X ca W L es as) : SA X ca W L (e :: es) (.cons c as) := sa_cons h t (star1 hp)
theorem g_idx {a b : Expr} {c d : CE} (ha : SE X ca W L a c) (hi : SE X ca W L b d) (hb : PlainIx b) : SE X ca W L (.Subscript a b pos) (.idx c d) := snd_idx hb ha hi
section
variable {np : Pos} {e a b : Expr} {c d : CE}
theorem g_len (hm : X.mg "len" = none) (hg : glB X.env.scope "len" = true) (hp : plainE e = true) (h : SE X ca W L e c) : SE X ca W L (.Call (.Name "len" np) [e] [] pos) (.prim .len (.cons c .nil)) :=
  snd_primB (call_len_seq.or call_len_str) PySem.boot_len (glB_ok hg).1 hm (glB_ok hg).2.2 (glB_ok hg).2.1 (by rw [List.all_cons, hp]; rfl) (ga_cons hp h sa_nil) fun _ _ _ _ _ _ _ _ _ hs r q g => ok_len hs r q g
theorem g_all (hc : X.calm = true) (hm : X.mg "all" = none) (hg : glB X.env.scope "all" = true) (hp : plainE e = true) (h : SE X ca W L e c) : SE X ca W L (.Call (.Name "all" np) [e] [] pos) (.prim .all (.cons c .nil)) :=
  snd_primB (cr_all hc) boot_all (glB_ok hg).1 hm (glB_ok hg).2.2 (glB_ok hg).2.1 (by rw [List.all_cons, hp]; rfl) (ga_cons hp h sa_nil) fun _ _ _ _ _ _ _ _ _ hs r q g => ok_all hs r q g
theorem g_any (hc : X.calm = true) (hm : X.mg "any" = none) (hg : glB X.env.scope "any" = true) (hp : plainE e = true) (h : SE X ca W L e c) : SE X ca W L (.Call (.Name "any" np) [e] [] pos) (.prim .any (.cons c .nil)) :=
  snd_primB (cr_any hc) boot_any (glB_ok hg).1 hm (glB_ok hg).2.2 (glB_ok hg).2.1 (by rw [List.all_cons, hp]; rfl) (ga_cons hp h sa_nil) fun _ _ _ _ _ _ _ _ _ hs r q g => ok_any hs r q g
theorem g_sum (hc : X.calm = true) (hm : X.mg "sum" = none) (hg : glB X.env.scope "sum" = true) (hp : plainE e = true) (h : SE X ca W L e c) : SE X ca W L (.Call (.Name "sum" np) [e] [] pos) (.prim .sum (.cons c .nil)) :=
  snd_primB (cr_sum hc) boot_sum (glB_ok hg).1 hm (glB_ok hg).2.2 (glB_ok hg).2.1 (by rw [List.all_cons, hp]; rfl) (ga_cons hp h sa_nil) fun _ _ _ _ _ _ _ _ _ hs r q g => ok_sum hs r q g
theorem g_tuple (hm : X.mg "tuple" = none) (hg : glB X.env.scope "tuple" = true) (hp : plainE e = true) (h : SE X ca W L e c) : SE X ca W L (.Call (.Name "tuple" np) [e] [] pos) (.prim .tupOf (.cons c .nil)) :=
  snd_primT call_tuple_of boot_tuple (glB_ok hg).1 hm (glB_ok hg).2.2 (glB_ok hg).2.1 (by rw [List.all_cons, hp]; rfl) (ga_cons hp h sa_nil) fun _ _ _ _ _ _ _ _ _ hs r q g => ok_tup hs r q g
theorem g_list (hm : X.mg "list" = none) (hg : glB X.env.scope "list" = true) (hp : plainE e = true) (h : SE X ca W L e c) : SE X ca W L (.Call (.Name "list" np) [e] [] pos) (.prim .lstOf (.cons c .nil)) :=
  snd_primT call_list_of boot_list (glB_ok hg).1 hm (glB_ok hg).2.2 (glB_ok hg).2.1 (by rw [List.all_cons, hp]; rfl) (ga_cons hp h sa_nil) fun _ _ _ _ _ _ _ _ _ hs r q g => ok_lst hs r q g
theorem g_intOf (hm : X.mg "int" = none) (hg : glB X.env.scope "int" = true) (hp : plainE e = true) (h : SE X ca W L e c) : SE X ca W L (.Call (.Name "int" np) [e] [] pos) (.prim .intOf (.cons c .nil)) :=
  snd_primT call_int1 boot_int (glB_ok hg).1 hm (glB_ok hg).2.2 (glB_ok hg).2.1 (by rw [List.all_cons, hp]; rfl) (ga_cons hp h sa_nil) fun _ _ _ _ _ _ _ _ _ hs r q g => ok_int hs r q g
theorem g_min (hc : X.calm = true) (hm : X.mg "min" = none) (hg : glB X.env.scope "min" = true) (p1 : plainE a = true) (p2 : plainE b = true) (h1 : SE X ca W L a c) (h2 : SE X ca W L b d) : SE X ca W L (.Call (.Name "min" np) [a, b] [] pos) (.prim .min2 (.cons c (.cons d .nil))) :=
  snd_primB (call_min2 hc) boot_min (glB_ok hg).1 hm (glB_ok hg).2.2 (glB_ok hg).2.1 (by rw [List.all_cons, List.all_cons, p1, p2]; rfl) (ga_cons p1 h1 (ga_cons p2 h2 sa_nil)) fun _ _ _ _ _ _ _ _ _ hs r q g => ok_min hs r q g
theorem g_max (hc : X.calm = true) (hm : X.mg "max" = none) (hg : glB X.env.scope "max" = true) (p1 : plainE a = true) (p2 : plainE b = true) (h1 : SE X ca W L a c) (h2 : SE X ca W L b d) : SE X ca W L (.Call (.Name "max" np) [a, b] [] pos) (.prim .max2 (.cons c (.cons d .nil))) :=
  snd_primB (call_max2 hc) boot_max (glB_ok hg).1 hm (glB_ok hg).2.2 (glB_ok hg).2.1 (by rw [List.all_cons, List.all_cons, p1, p2]; rfl) (ga_cons p1 h1 (ga_cons p2 h2 sa_nil)) fun _ _ _ _ _ _ _ _ _ hs r q g => ok_max hs r q g
theorem g_isI {T : Ty} {p1 p2 : Pos} {nm : Str} (hv : bootBuiltins nm = some (.type T.name)) (hmi : X.mg "isinstance" = none) (hm : X.mg nm = none) (hgi : glB X.env.scope "isinstance" = true) (hg : glB X.env.scope nm = true) (hp : plainE e = true) (h : SE X ca W L e c) : SE X ca W L (.Call (.Name "isinstance" p1) [e, .Name nm p2] [] pos) (.prim (.isI T) (.cons c .nil)) :=
  snd_isI (glB_ok hgi).1 hmi (glB_ok hg).1 hm hv (glB_ok hg).2.2 (glB_ok hg).2.1 hp h
theorem g_is2 {T U : Ty} {p1 p2 p3 p4 : Pos} {k : Nat} {nm nu : Str} (hv : bootBuiltins nm = some (.type T.name)) (hv2 : bootBuiltins nu = some (.type U.name)) (hmi : X.mg "isinstance" = none) (hm : X.mg nm = none) (hm2 : X.mg nu = none) (hgi : glB X.env.scope "isinstance" = true) (hg : glB X.env.scope nm = true) (hg2 : glB X.env.scope nu = true) (hp : plainE e = true) (h : SE X ca W L e c) :
    SE X ca W L (.Call (.Name "isinstance" p1) [e, .Tuple [.Name nm p2, .Name nu p3] k p4] [] pos) (.prim (.is2 T U) (.cons c .nil)) :=
  snd_is2 (glB_ok hgi).1 hmi (glB_ok hg).1 hm hv (glB_ok hg).2.2 (glB_ok hg).2.1 (glB_ok hg2).1 hm2 hv2 (glB_ok hg2).2.2 (glB_ok hg2).2.1 hp h
end
/-! calls -/
section
variable {T : Tb} {x : Str} {fn : Fn} {p : Bool} {f : Addr} {fd : FuncData} {ps : List Str} {e v : Expr} {es : List Expr} {as : CA} {c : CE} {np kpos : Pos}
theorem g_call (k : Ctx X W n) (F : FnAt X.prog X.w X.K X.mg X.base ca T n x fn p f fd ps) (hb : Binds X.K fd ps []) (hL : L.call = callN T n L.pu) (hg : glB X.env.scope x = true) (hp : (e :: es).all plainE = true) (ha : SA X ca W L (e :: es) as) : SE X ca W L (.Call (.Name x np) (e :: es) [] pos) (.call fn as) :=
  snd_call hL F.fin hb k.tk k.rm (glB_ok hg).1 (glB_ok hg).2.1 hp ha
theorem g_callb (k : Ctx X W n) (F : FnAt X.prog X.w X.K X.mg X.base ca T n x fn p f fd ps) (hb : Binds X.K fd ps []) (hL : L.callp = callN T n true) (hg : glB X.env.scope x = true) (hp : (e :: es).all plainE = true) (ha : SA X ca W L (e :: es) as) : SE X ca W L (.Call (.Name x np) (e :: es) [] pos) (.callb fn as) :=
  snd_callb hL F.fin hb k.tk k.rm (glB_ok hg).1 (glB_ok hg).2.1 hp ha
theorem g_callD {d : D} {dv : V} (k : Ctx X W n) (F : FnAt X.prog X.w X.K X.mg X.base ca T n x fn p f fd ps) (hb : ∃ ds, Vals [dv] ds ∧ Binds X.K fd ps ds) (hrd : ∀ Mu al H, Rep X.K Mu al H dv d) (hL : L.call = callN T n L.pu) (hg : glB X.env.scope x = true) (hp : (e :: es).all plainE = true) (ha : SA X ca W L (e :: es) as) (e' : as.app (.cons (.lit d) .nil) = bs) : SE X ca W L (.Call (.Name x np) (e :: es) [] pos) (.call fn bs) := by
  obtain ⟨ds, hv, hb⟩ := hb
  cases hv with
  | cons h1 h2 =>
    cases h2
    rw [← e']
    exact snd_callD hL F.fin hb h1 hrd k.tk k.rm (glB_ok hg).1 (glB_ok hg).2.1 hp ha
theorem g_callK {nm : Str} (hc : c.isBor = false) (k : Ctx X W n) (F : FnAt X.prog X.w X.K X.mg X.base ca T n x fn p f fd ps) (hb : KBn X.K fd ps (e :: es).length [nm] (fun us ws => us ++ ws) (fun vs zs => vs ++ zs)) (hps : ps.length = es.length + 2) (hL : L.call = callN T n L.pu) (hg : glB X.env.scope x = true) (hp : (e :: es).all plainE = true) (ha : SA X ca W L (e :: es) as) (hv : SE X ca W L v c) (hn : as.len = es.length + 1) (e' : as.app (.cons c .nil) = bs) :
    SE X ca W L (.Call (.Name x np) (e :: es) [⟨some nm, v, kpos⟩] pos) (.call fn bs) := by
  rw [← e']
  exact snd_callK hc hL F.fin hb hps k.tk k.rm (glB_ok hg).1 (glB_ok hg).2.1 hp ha hv fun r S ds S' h => (evA_len h).trans hn
end
/-! what is walked -/
theorem g_zip {e1 e2 : Expr} {c1 c2 : CE} {elts : List Expr} {kk : Nat} {tpos zp : Pos} (hm : X.mg "zip" = none) (hg : glB X.env.scope "zip" = true) (p1 : plainE e1 = true) (p2 : plainE e2 = true) (hb1 : c1.isBor = false) (hb2 : c2.isBor = false) (h1 : SE X ca W L e1 c1) (h2 : SE X ca W L e2 c2) : SI X ca W L (.Tuple elts kk tpos) (.Call (.Name "zip" zp) [e1, e2] [] pos) (.zip c1 c2) := si_zip (glB_ok hg).1 hm p1 p2 hb1 hb2 h1 h2
theorem g_enum {e1 : Expr} {c1 : CE} {elts : List Expr} {kk : Nat} {tpos zp : Pos} (hm : X.mg "enumerate" = none) (hg : glB X.env.scope "enumerate" = true) (p1 : plainE e1 = true) (h1 : SE X ca W L e1 c1) : SI X ca W L (.Tuple elts kk tpos) (.Call (.Name "enumerate" zp) [e1] [] pos) (.enum c1) := si_enum (glB_ok hg).1 hm p1 h1
theorem g_rng1 {a tg : Expr} {c : CE} {rp : Pos} (hm : X.mg "range" = none) (hg : glB X.env.scope "range" = true) (p1 : plainE a = true) (h : SE X ca W L a c) : SI X ca W L tg (.Call (.Name "range" rp) [a] [] pos) (.rng (.cons c .nil)) := si_rng1 (glB_ok hg).1 hm p1 h
theorem g_rng2 {a b tg : Expr} {c d : CE} {rp : Pos} (hm : X.mg "range" = none) (hg : glB X.env.scope "range" = true) (p1 : plainE a = true) (p2 : plainE b = true) (h : SE X ca W L a c) (h2 : SE X ca W L b d) : SI X ca W L tg (.Call (.Name "range" rp) [a, b] [] pos) (.rng (.cons c (.cons d .nil))) := si_rng2 (glB_ok hg).1 hm p1 p2 h h2
/-! targets, comprehensions -/
theorem gg_var {i : Nat} {x : Str} (hN : X.N.Nodup) (h : loB X.fn X.N X.env.scope i x = true) : PG X (.Name x pos) (tGt X.K (.var i)) := sg_var hN (loB_ok h).1 (loB_ok h).2.1 (loB_ok h).2.2
def blB (N : List Str) (sc scope : Scope) (own : List (Str × Nat)) : Bool :=
  decide (scope.kind = .function) && scope.names.all (fun y => decide (scope.names.lookup y.1 = some y.2)) && own.all (fun p => decide (N[p.2]? = some p.1)) &&
  scope.names.all (fun y => !decide (y.2 = .free) || (decide (sc.names.lookup y.1 = some .cell) || decide (sc.names.lookup y.1 = some .free))) &&
  scope.names.all fun y => !(decide (y.2 = .local) || decide (y.2 = .cell)) || (decide (y.1 ∈ own.map (·.1)) || decide (y.1 ∉ N))
theorem blB_ok {N : List Str} {sc scope : Scope} {own : List (Str × Nat)} (h : blB N sc scope own = true) : BlkOk N sc scope own := by
  unfold blB at h
  simp only [Bool.and_eq_true, decide_eq_true_eq, List.all_eq_true] at h
  obtain ⟨⟨⟨⟨h1, h2⟩, h3⟩, h4⟩, h5⟩ := h
  refine ⟨h1, h2, h3, fun y hy e => ?_, fun y hy e => ?_⟩
  · have := h4 y hy
    simp only [Bool.or_eq_true, Bool.not_eq_true', decide_eq_true_eq, decide_eq_false_iff_not] at this
    rcases this with h | h
    · exact absurd e h
    · exact h
  · have := h5 y hy
    simp only [Bool.or_eq_true, Bool.not_eq_true', decide_eq_true_eq, decide_eq_false_iff_not, Bool.or_eq_false_iff] at this
    rcases this with h | h
    · rcases e with e | e
      · exact absurd e h.1
      · exact absurd e h.2
    · exact h
theorem g_comp {elt tg iter : Expr} {ifs : List Expr} {scope : Scope} {own : List (Str × Nat)} {c : CE} {t : Tg} {it : CI} {cs : CA} {ix : List Nat} (hix : own.map (·.2) = ix) (hb : c.isBor = false) (ho : t.ixs.all (fun i => decide (i ∈ ix)) = true) (hc : X.calm = true) (hN : X.N.Nodup) (ok : blB X.N X.env.scope scope own = true) (hs : ∀ x, foldedSetIterable iter X.env x = pure x) (hi : SI X ca W L tg iter it)
    (hg : ∀ (s : Shared) (H : Hp) (C : Addr) (cl : List (Str × Addr)) (fp : List Addr), PG (X.blk s H scope (compEnvC scope cl C X.env) fp) tg (tGt X.K t)) (ht : ∀ (s : Shared) (H : Hp) (C : Addr) (cl : List (Str × Addr)) (fp : List Addr), SC (X.blk s H scope (compEnvC scope cl C X.env) fp) ca W0 L ifs cs)
    (he : ∀ (s : Shared) (H : Hp) (C : Addr) (cl : List (Str × Addr)) (fp : List Addr), SE (X.blk s H scope (compEnvC scope cl C X.env) fp) ca W0 L elt c) : SE X ca W L (.ListComp elt [⟨tg, iter, ifs, 0⟩] scope pos) (.comp c t it cs ix) := by
  subst hix
  exact snd_comp hb (fun i hi => of_decide_eq_true (List.all_eq_true.mp ho i hi)) hc hN hi (blB_ok ok) hg ht he hs
theorem Ctx.blk {scope : Scope} {s : Shared} {H : Hp} {env : Env} {fp : List Addr} (k : Ctx X W n) : Ctx (X.blk s H scope env fp) W0 n := ⟨takes0, k.rm⟩
/-! statements -/
theorem g_set {i : Nat} {x : Str} {e : Expr} {c : CE} {xp : Pos} (hb : c.isBor = false) (hN : X.N.Nodup) (h : loB X.fn X.N X.env.scope i x = true) (hs : swapsWith e (some (.Name x xp)) pos.line X.env = pure false) (he : SE X ca (WO Ex) L e c) : SS X ca Ex M0 L (.Assign [.Name x xp] e pos) (.set i false c) :=
  ss_setG hb (ps_set hN (loB_ok h).1 (loB_ok h).2.1 he hs (loB_ok h).2.2) fun _ _ _ h => h
theorem g_setO {i : Nat} {x : Str} {e : Expr} {c : CE} {xp : Pos} (hb : c.isBor = false) (hN : X.N.Nodup) (h : loB X.fn X.N X.env.scope i x = true) (hs : swapsWith e (some (.Name x xp)) pos.line X.env = pure false) (he : SE X ca (WO Ex) L.pure e c) : SS X ca Ex M0 L (.Assign [.Name x xp] e pos) (.set i true c) :=
  ss_setOG hb (ps_set hN (loB_ok h).1 (loB_ok h).2.1 he hs (loB_ok h).2.2) fun _ _ _ h => h
theorem g_setC {i : Nat} {x : Str} {xp lpos : Pos} {elt tg iter : Expr} {ifs : List Expr} {scope : Scope} {own : List (Str × Nat)} {c : CE} {t : Tg} {it : CI} {cs : CA} {ix : List Nat} (h : loL X.N X.env.scope i x = true) (hsw : swapsWith (.ListComp elt [⟨tg, iter, ifs, 0⟩] scope lpos) (some (.Name x xp)) pos.line X.env = pure true)
    (hix : own.map (·.2) = ix) (hb : c.isBor = false) (ho : t.ixs.all (fun i => decide (i ∈ ix)) = true) (hc : X.calm = true) (hN : X.N.Nodup) (ok : blB X.N X.env.scope scope own = true) (hs : ∀ x, foldedSetIterable iter X.env x = pure x) (hi : SI X ca (WO Ex) L tg iter it)
    (hg : ∀ (s : Shared) (H : Hp) (C : Addr) (cl : List (Str × Addr)) (fp : List Addr), PG (X.blk s H scope (compEnvC scope cl C X.env) fp) tg (tGt X.K t)) (ht : ∀ (s : Shared) (H : Hp) (C : Addr) (cl : List (Str × Addr)) (fp : List Addr), SC (X.blk s H scope (compEnvC scope cl C X.env) fp) ca W0 L ifs cs)
    (he : ∀ (s : Shared) (H : Hp) (C : Addr) (cl : List (Str × Addr)) (fp : List Addr), SE (X.blk s H scope (compEnvC scope cl C X.env) fp) ca W0 L elt c) : SS X ca Ex M0 L (.Assign [.Name x xp] (.ListComp elt [⟨tg, iter, ifs, 0⟩] scope lpos) pos) (.set i false (.comp c t it cs ix)) := by
  subst hix
  exact ss_setG rfl (ps_setLc hc hN (loL_ok h).1 (loL_ok h).2 hsw hi (blB_ok ok) hg ht he hs) fun σ H Q h => comp_imp hb (fun i hi => of_decide_eq_true (List.all_eq_true.mp ho i hi)) σ H Q h
theorem g_setCO {i : Nat} {x : Str} {xp lpos : Pos} {elt tg iter : Expr} {ifs : List Expr} {scope : Scope} {own : List (Str × Nat)} {c : CE} {t : Tg} {it : CI} {cs : CA} {ix : List Nat} (h : loL X.N X.env.scope i x = true) (hsw : swapsWith (.ListComp elt [⟨tg, iter, ifs, 0⟩] scope lpos) (some (.Name x xp)) pos.line X.env = pure true)
    (hix : own.map (·.2) = ix) (hb : c.isBor = false) (ho : t.ixs.all (fun i => decide (i ∈ ix)) = true) (hc : X.calm = true) (hN : X.N.Nodup) (ok : blB X.N X.env.scope scope own = true) (hs : ∀ x, foldedSetIterable iter X.env x = pure x) (hi : SI X ca (WO Ex) L.pure tg iter it)
    (hg : ∀ (s : Shared) (H : Hp) (C : Addr) (cl : List (Str × Addr)) (fp : List Addr), PG (X.blk s H scope (compEnvC scope cl C X.env) fp) tg (tGt X.K t)) (ht : ∀ (s : Shared) (H : Hp) (C : Addr) (cl : List (Str × Addr)) (fp : List Addr), SC (X.blk s H scope (compEnvC scope cl C X.env) fp) ca W0 L.pure ifs cs)
    (he : ∀ (s : Shared) (H : Hp) (C : Addr) (cl : List (Str × Addr)) (fp : List Addr), SE (X.blk s H scope (compEnvC scope cl C X.env) fp) ca W0 L.pure elt c) : SS X ca Ex M0 L (.Assign [.Name x xp] (.ListComp elt [⟨tg, iter, ifs, 0⟩] scope lpos) pos) (.set i true (.comp c t it cs ix)) := by
  subst hix
  exact ss_setOG rfl (ps_setLc hc hN (loL_ok h).1 (loL_ok h).2 hsw hi (blB_ok ok) hg ht he hs) fun σ H Q h => comp_imp (L := L.pure) hb (fun i hi => of_decide_eq_true (List.all_eq_true.mp ho i hi)) σ H Q h
theorem g_unp {tg e : Expr} {t : Tg} {c : CE} (hb : c.isBor = false) (hs : swapsWithSole [tg] e pos.line X.env = pure false) (hw : swappedStores [tg] e X.env = pure none) (h1 : (assignEach [tg] X.env).map (·.2) = [assign tg X.env]) (he : SE X ca (WO Ex) L e c) (hg : PG X tg (tGt X.K t)) : SS X ca Ex M0 L (.Assign [tg] e pos) (.unp t c) :=
  ss_unpG hb (ps_asg he hg hs hw h1) fun _ _ _ h => h
theorem g_par2 {i j : Nat} {x y : Str} {a b : Expr} {c d : CE} {px py pt pt2 : Pos} {kt k2 : Nat} (hcb : c.isBor = false) (hdb : d.isBor = false) (hc : X.calm = true) (hN : X.N.Nodup) (hi : loL X.N X.env.scope i x = true) (hj : loL X.N X.env.scope j y = true) (hij : i ≠ j)
    (hw : swappedStores [.Tuple [.Name x px, .Name y py] kt pt] (.Tuple [a, b] k2 pt2) X.env = pure (some [x, y])) (hs : swapsWithSole [.Tuple [.Name x px, .Name y py] kt pt] (.Tuple [a, b] k2 pt2) pos.line X.env = pure false) (pa : plainE a = true) (pb : plainE b = true) (h1 : SE X ca (WO Ex) L a c) (h2 : SE X ca (WO Ex) L b d) :
    SS X ca Ex M0 L (.Assign [.Tuple [.Name x px, .Name y py] kt pt] (.Tuple [a, b] k2 pt2) pos) (.par2 i j c d) :=
  ss_par2 hcb hdb (fun ta ha => ps_par hc hN (loL_ok hi).1 (loL_ok hj).1 hij (loL_ok hi).2 (loL_ok hj).2 ha hw hs) pa pb h1 h2
theorem g_app {i : Nat} {x : Str} {np ap cp : Pos} {e : Expr} {c : CE} (hb : c.isBor = false) (h : nmB X.N X.env.scope i x = true) (hp : plainE e = true) (hline : (ap.endLine == cp.line) = true) (he : SE X ca (WO Ex) L e c) : SS X ca Ex M0 L (.Expr (.Call (.Attribute (.Name x np) "append" ap) [e] [] cp) pos) (.app i c) :=
  ss_app hb (nmB_ok h).1 (nmB_ok h).2.1 (nmB_ok h).2.2.1 (nmB_ok h).2.2.2 hp he hline
theorem g_ext {i : Nat} {x : Str} {np ap cp : Pos} {e : Expr} {c : CE} (h : nmB X.N X.env.scope i x = true) (hp : plainE e = true) (hline : (ap.endLine == cp.line) = true) (he : SE X ca (WO Ex) L e c) : SS X ca Ex M0 L (.Expr (.Call (.Attribute (.Name x np) "extend" ap) [e] [] cp) pos) (.ext i c) :=
  ss_ext (nmB_ok h).1 (nmB_ok h).2.1 (nmB_ok h).2.2.1 (nmB_ok h).2.2.2 hp he hline
theorem g_setI {o i e : Expr} {co ci ce : CE} {sp tp : Pos} (h1 : co.isBor = false) (h2 : ci.isBor = false) (h3 : ce.isBor = false) (hs : swapsWithSole [.Subscript o i tp] e sp.line X.env = pure false) (hw : swappedStores [.Subscript o i tp] e X.env = pure none) (ha : (assignEach [.Subscript o i tp] X.env).map (·.2) = [assign (.Subscript o i tp) X.env])
    (hps : ∀ v, assign (.Subscript o i tp) X.env v = (do
      let ov ← holding [v] (eval o X.env)
      let iv ← holding [v, ov] (eval i X.env)
      standAt tp
      holding [v, ov, iv] (setItem ov iv v)
      release [v, ov, iv] [])) (he : SE X ca (WO Ex) L e ce) (ho : SE X ca (WO Ex) L o co) (hi : SE X ca (WO Ex) L i ci) : SS X ca Ex M0 L (.Assign [.Subscript o i tp] e sp) (.setI co ci ce) :=
  ss_setI h1 h2 h3 ho hi he (fun h1 h2 => ps_asg h1 h2 hs hw ha) fun h1 h2 h3 => pg_sub h1 h2 h3 hps
theorem g_retO {i : Nat} {x : Str} {np : Pos} (h : nmB X.N X.env.scope i x = true) : SS X ca Ex M0 L (.Return (some (.Name x np)) pos) (.retO i) := ss_retO (nmB_ok h).1 (nmB_ok h).2.1 (nmB_ok h).2.2.1 (nmB_ok h).2.2.2
theorem g_told {T : Tb} {i : Nat} {x xf : Str} {fn : Fn} {f : Addr} {fd : FuncData} {ps : List Str} {a b due e : CE} {e1 e2 edue ee : Expr} {rest : List Stmt} {cs : CB} {p1 p2 p3 p4 p5 p6 p7 p8 p9 p10 p11 p12 p13 p14 p15 p16 : Pos} {k8 k12 : Nat}
    (k : Ctx X (WO Ex) n) (F : FnAt X.prog X.w X.K X.mg X.base ca T n xf fn true f fd ps) (hbn : Binds X.K fd ps []) (hL : L.callp = callN T n true) (hab : a.isBor = false) (hbb : b.isBor = false) (hzb : due.isBor = false) (q1 : plainE e1 = true) (q2 : plainE e2 = true) (q3 : plainE edue = true) (q4 : plainE ee = true)
    (hNd : X.N.Nodup) (h1 : nmB X.N X.env.scope i x = true) (h2 : loB X.fn X.N X.env.scope i x = true) (hg : glB X.env.scope xf = true) (hline : (p14.endLine == p15.line) = true) (ha : SE X ca (WO Ex) L.pure e1 a) (hb : SE X ca (WO Ex) L.pure e2 b) (hz : SE X ca (WO Ex) L.pure edue due) (he' : SE X ca (WO Ex) L.pure ee e) (hrest : SB X ca Ex M0 L rest cs) :
    SB X ca Ex M0 L (.Assign [.Name x p1] (.List [e1, e2] p2) p3 :: .If (.UnaryOp .Not (.Call (.Name xf p4) [.Name x p5, edue] [] p6) p7) [.Return (some (.Constant (.bool false) k8 p8)) p9] [] p10 :: .Expr (.Call (.Attribute (.Subscript (.Name x p11) (.Constant (.int 0) k12 p12) p13) "append" p14) [ee] [] p15) p16 :: rest) (.cons (.told i a b fn due e) cs) :=
  sb_told hab hbb hzb q1 q2 q3 q4 ha hb hz he' (nmB_ok h1).1 (nmB_ok h1).2.1 (nmB_ok h1).2.2.1 (nmB_ok h1).2.2.2 hNd (loB_ok h2).2.1 (loB_ok h2).2.2 hL F.fin hbn k.tk k.rm (glB_ok hg).1 (glB_ok hg).2.1 hline hrest
/-! sorted by a lambda's key -/
def lamB (scope : Scope) (y : Str) : Bool := decide (scope.kind = .function) && !scope.isCoroutine && !scope.isGenerator && scope.names.all (fun x => !decide (x.2 = .cell) && !decide (x.2 = .free)) && decide (scope.names.lookup y = some .local) && decide (scope.names.lookup ("len" : Str) = some .globalImplicit) && !(y == ("__debug__" : Str))
theorem lamB_ok {scope : Scope} {y : Str} (h : lamB scope y = true) : scope.kind = .function ∧ scope.isCoroutine = false ∧ scope.isGenerator = false ∧ (∀ x ∈ scope.names, x.2 ≠ .cell) ∧ (∀ x ∈ scope.names, x.2 ≠ .free) ∧ scope.names.lookup y = some .local ∧ scope.names.lookup ("len" : Str) = some .globalImplicit ∧ (y == ("__debug__" : Str)) = false := by
  unfold lamB at h
  simp only [Bool.and_eq_true, decide_eq_true_eq, List.all_eq_true, Bool.not_eq_true', decide_eq_false_iff_not] at h
  obtain ⟨⟨⟨⟨⟨⟨h1, h2⟩, h3⟩, h4⟩, h5⟩, h6⟩, h7⟩ := h
  exact ⟨h1, h2, h3, fun x hx => (h4 x hx).1, fun x hx => (h4 x hx).2, h5, h6, h7⟩
theorem g_sortS {e : Expr} {c : CE} {np kpos lpos p1 p2 p3 p4 p5 : Pos} {k5 : Nat} {params : Arguments} {scope : Scope} {y : Str} {c0 P : Addr} (k : Ctx X W n) (hm : X.mg "sorted" = none) (hml : X.mg "len" = none) (hg : glB X.env.scope "sorted" = true) (hp : plainE e = true)
    (TB : LamX.TabB X.base X.mg c0 P) (hcode : X.env.code = .ref c0) (hmT : (P, X.env.qual ++ "<lambda>") ∈ ca.tabs) (hut : ∀ p ∈ ca.tabs, p.1 = P → p.2 = X.env.qual ++ "<lambda>") (hdef : defaultsOf params X.env = ([], [])) (hl : lamB scope y = true)
    (hbind : ∀ (q : Str) (cl : List (Str × Addr)) (pm cv ctv u : Value), bindArgs (PySem.W.kla_fn "<lambda>" q params (.Tuple [.Call (.Name "len" p1) [.Name y p2] [] p3, .Name y p4] k5 p5) scope cl pm cv ctv) ⟨[u], []⟩ = pure [(y, u)]) (h : SE X ca W L e c) :
    SE X ca W L (.Call (.Name "sorted" np) [e] [⟨some "key", .Lambda params (.Tuple [.Call (.Name "len" p1) [.Name y p2] [] p3, .Name y p4] k5 p5) scope lpos, kpos⟩] pos) (.sortk .self c) := by
  obtain ⟨h1, h2, h3, h4, h5, h6, h7, h8⟩ := lamB_ok hl
  exact snd_sortk (glB_ok hg).1 hm hp h TB hcode hmT hut hdef h1 h2 h3 h4 h5 h6 hbind k.rm fun cl => key_self h1 h6 h7 hml h8
end
theorem code_of {K : PySem.W.Frag} {x qual : Str} {params : Arguments} {body : List Stmt} {sc : Scope} {dvs : List V} {kws : List (Str × V)} {fd : FuncData} {p : Str × Option Str} (F : FunD K x qual params body sc dvs kws (He.fAd K p) fd) : fd.code = .ref (He.codeOf K p) := by
  obtain ⟨oc, od, dV, kV, doc, pm, an, cdv, ct, osl, rfl, lk, hcd, _, _⟩ := F.ex
  obtain ⟨c, rfl⟩ := He.codeIn_ref hcd
  show Value.ref c = _
  rw [He.codeOf_eq lk rfl]
end Pb
end

section
set_option Elab.async false
set_option linter.all false
set_option maxRecDepth 100000
set_option maxHeartbeats 1000000
/-! How the core runs: big steps. -/
namespace Pb
open PySem
theorem rb {α β : Type} {m : M α} {k : α → M β} {S S1 : List SO} {a : α} {res : R β} (h : m S = .ok a S1) (h2 : k a S1 = res) : (m >>= k) S = res := (M.bind_eq h).trans h2
section
variable {L : Lk} {r r' r1 : Rho} {S S1 S2 S3 : List SO} {a b c e : CE} {x y z o : Out} {d : D} {i j : Nat} {as : CA} {ds xs : List D} {res : R Fl}
theorem e_var (h : r[i]? = some (.v d)) : ev L (.var i) r S = .ok (.v d) S := by
  show (match r[i]? with | some (.v d) => pure (.v d) | _ => M.bad : M Out) S = _
  rw [h]
  rfl
theorem e_bor (h : r[i]? = some (.own ds)) : ev L (.bor i) r S = .ok (.v (.list ds)) S := by
  show (match r[i]? with | some (.own ds) => pure (.v (.list ds)) | _ => M.bad : M Out) S = _
  rw [h]
  rfl
theorem e_lit : ev L (.lit d) r S = .ok (.v d) S := rfl
theorem run_of {α : Type} {v : Option α} {u : α} (h : v = some u) : (ofOpt v : M α) S = .ok u S := by rw [h]; rfl
theorem e_bin {op : Bop} (ha : ev L a r S = .ok x S1) (hb : ev L b r S1 = .ok y S2) (h : binV op x.d y.d = some o) : ev L (.bin op a b) r S = .ok o S2 := rb ha (rb hb (run_of h))
theorem e_cmp {op : Cop} {u : Bool} (ha : ev L a r S = .ok x S1) (hb : ev L b r S1 = .ok y S2) (h : cmpV op x.d y.d = some u) : ev L (.cmp op a b) r S = .ok (.v (.bool u)) S2 := rb ha (rb hb (rb (run_of h) rfl))
theorem e_isN (ha : ev L a r S = .ok x S1) : ev L (.isN a) r S = .ok (.v (.bool (match x.d with | .non => true | _ => false))) S1 := rb ha rfl
theorem e_notN (ha : ev L a r S = .ok x S1) : ev L (.notN a) r S = .ok (.v (.bool (match x.d with | .non => false | _ => true))) S1 := rb ha rfl
theorem e_chain_t {p q : Cop} {u : Bool} (ha : ev L a r S = .ok x S1) (hb : ev L b r S1 = .ok y S2) (h : cmpV p x.d y.d = some true) (hc : ev L c r S2 = .ok z S3) (h2 : cmpV q y.d z.d = some u) : ev L (.chain p q a b c) r S = .ok (.v (.bool u)) S3 := rb ha (rb hb (rb (run_of h) (rb hc (rb (run_of h2) rfl))))
theorem e_chain_f {p q : Cop} (ha : ev L a r S = .ok x S1) (hb : ev L b r S1 = .ok y S2) (h : cmpV p x.d y.d = some false) : ev L (.chain p q a b c) r S = .ok (.v (.bool false)) S2 := rb ha (rb hb (rb (run_of h) rfl))
theorem e_and_t {u : Bool} (ha : ev L a r S = .ok (.v (.bool true)) S1) (hb : ev L b r S1 = .ok (.v (.bool u)) S2) : ev L (.and a b) r S = .ok (.v (.bool u)) S2 := rb ha (rb (a := true) rfl (rb hb rfl))
theorem e_and_f (ha : ev L a r S = .ok (.v (.bool false)) S1) : ev L (.and a b) r S = .ok (.v (.bool false)) S1 := rb ha (rb (a := false) rfl rfl)
theorem e_and {u v : Bool} (ha : ev L a r S = .ok (.v (.bool u)) S) (hb : u = true → ev L b r S = .ok (.v (.bool v)) S) : ev L (.and a b) r S = .ok (.v (.bool (u && v))) S := by
  cases u with
  | true => exact e_and_t ha (hb rfl)
  | false => exact e_and_f ha
theorem e_or_f {u : Bool} (ha : ev L a r S = .ok (.v (.bool false)) S1) (hb : ev L b r S1 = .ok (.v (.bool u)) S2) : ev L (.or a b) r S = .ok (.v (.bool u)) S2 := rb ha (rb (a := false) rfl (rb hb rfl))
theorem e_or_t (ha : ev L a r S = .ok (.v (.bool true)) S1) : ev L (.or a b) r S = .ok (.v (.bool true)) S1 := rb ha (rb (a := true) rfl rfl)
theorem e_or {u v : Bool} (ha : ev L a r S = .ok (.v (.bool u)) S) (hb : u = false → ev L b r S = .ok (.v (.bool v)) S) : ev L (.or a b) r S = .ok (.v (.bool (u || v))) S := by
  cases u with
  | true => exact e_or_t ha
  | false => exact e_or_f ha (hb rfl)
theorem e_not {u : Bool} (ha : ev L a r S = .ok (.v (.bool u)) S1) : ev L (.not a) r S = .ok (.v (.bool (!u))) S1 := rb ha (rb (a := u) rfl rfl)
theorem e_ite_t (ha : ev L a r S = .ok (.v (.bool true)) S1) (hb : ev L b r S1 = .ok y S2) : ev L (.ite a b c) r S = .ok (.v y.d) S2 := rb ha (rb (a := true) rfl (rb hb rfl))
theorem e_ite_f (ha : ev L a r S = .ok (.v (.bool false)) S1) (hc : ev L c r S1 = .ok y S2) : ev L (.ite a b c) r S = .ok (.v y.d) S2 := rb ha (rb (a := false) rfl (rb hc rfl))
theorem e_tup (hn : as.nb = true) (h : evA L as r S = .ok ds S1) (hl : ds.length ≤ sizeLine) : ev L (.tup as) r S = .ok (.v (.tuple ds)) S1 := by
  show (if as.nb = true then (evA L as r >>= fun ds => if ds.length ≤ sizeLine then pure (.v (.tuple ds)) else M.bad) else M.bad : M Out) S = _
  rw [if_pos hn]
  exact rb h (by rw [if_pos hl]; rfl)
theorem e_lst (hn : as.nb = true) (h : evA L as r S = .ok ds S1) (hl : ds.length ≤ sizeLine) : ev L (.lst as) r S = .ok (.own ds) S1 := by
  show (if as.nb = true then (evA L as r >>= fun ds => if ds.length ≤ sizeLine then pure (.own ds) else M.bad) else M.bad : M Out) S = _
  rw [if_pos hn]
  exact rb h (by rw [if_pos hl]; rfl)
theorem e_idx (ha : ev L a r S = .ok x S1) (hb : ev L b r S1 = .ok y S2) (h : idxV S2 x.d y.d = some d) : ev L (.idx a b) r S = .ok (.v d) S2 := rb ha (rb hb (by
  show (match idxV S2 x.d y.d with | some d => R.ok (Out.v d) S2 | none => .bad) = _
  rw [h]))
theorem eo_none : evO L none r S = .ok none S := rfl
theorem eo_some {k : Int} (h : ev L e r S = .ok (.v (.int k)) S1) : evO L (some e) r S = .ok (some k) S1 := rb h rfl
theorem e_slc {lo hi : Option CE} {l h : Option Int} (ha : ev L a r S = .ok x S1) (hl : evO L lo r S1 = .ok l S2) (hh : evO L hi r S2 = .ok h S3) (h2 : slcV x.d l h = some o) : ev L (.slc a lo hi) r S = .ok o S3 := rb ha (rb hl (rb hh (run_of h2)))
theorem e_call {f : Fn} (hn : as.nb = true) (h : evA L as r S = .ok ds S1) (hc : L.call f ds S1 = .ok o S2) : ev L (.call f as) r S = .ok o S2 := by
  show (if as.nb = true then (evA L as r >>= fun ds => L.call f ds) else M.bad : M Out) S = _
  rw [if_pos hn]
  exact rb h hc
theorem e_callb {f : Fn} (h : evA L as r S = .ok ds S1) (hc : L.callp f ds S1 = .ok (.v d) S2) (hd : d.noLst = true) : ev L (.callb f as) r S = .ok (.v d) S2 := rb h (rb (a := .v d) (S1 := S2) (by
  show M.nox (L.callp f ds) S1 = _
  unfold M.nox
  rw [hc]) (by
  show (if d.noLst = true then pure (.v d) else M.bad : M Out) S2 = _
  rw [if_pos hd]
  rfl))
theorem e_callT {T : Tb} {m : Nat} {p : Bool} {f : Fn} (hn : as.nb = true) (h : evA ⟨p, callN T m p, callN T m true, T.lo⟩ as r S = .ok ds S1) (hc : callN T m p f ds S1 = .ok o S2) : ev ⟨p, callN T m p, callN T m true, T.lo⟩ (.call f as) r S = .ok o S2 := e_call hn h hc
theorem e_callbT {T : Tb} {m : Nat} {p : Bool} {f : Fn} (h : evA ⟨p, callN T m p, callN T m true, T.lo⟩ as r S = .ok ds S1) (hc : callN T m true f ds S1 = .ok (.v d) S2) (hd : d.noLst = true) : ev ⟨p, callN T m p, callN T m true, T.lo⟩ (.callb f as) r S = .ok (.v d) S2 := e_callb h hc hd
theorem e_prim {p : Prim} (h : evA L as r S = .ok ds S1) (hp : primV p ds = some o) : ev L (.prim p as) r S = .ok o S1 := rb h (run_of hp)
theorem e_comp {elt : CE} {tg : Tg} {it : CI} {ifs : CA} {own : List Nat} (hi : evI L it r S = .ok xs S1) (hc : compGo (cF L elt tg ifs own r) xs S1 = .ok ds S2) : ev L (.comp elt tg it ifs own) r S = .ok (.own ds) S2 := rb hi (rb (a := ds) (S1 := S2) (by
  show M.nox (compGo (cF L elt tg ifs own r) xs) S1 = _
  unfold M.nox
  rw [hc]) rfl)
theorem e_sort {k : SK} (ha : ev L a r S = .ok x S1) (h : sortV k x.d = some o) : ev L (.sortk k a) r S = .ok o S1 := rb ha (run_of h)
theorem ea_nil : evA L .nil r S = .ok [] S := rfl
theorem ea_cons (h : ev L e r S = .ok x S1) (ht : evA L as r S1 = .ok ds S2) : evA L (.cons e as) r S = .ok (x.d :: ds) S2 := rb h (rb ht rfl)
theorem ea1 (h : ev L e r S = .ok x S1) : evA L (.cons e .nil) r S = .ok [x.d] S1 := ea_cons h ea_nil
theorem ea2 (h : ev L a r S = .ok x S1) (h2 : ev L b r S1 = .ok y S2) : evA L (.cons a (.cons b .nil)) r S = .ok [x.d, y.d] S2 := ea_cons h (ea1 h2)
theorem ea3 (h : ev L a r S = .ok x S1) (h2 : ev L b r S1 = .ok y S2) (h3 : ev L c r S2 = .ok z S3) : evA L (.cons a (.cons b (.cons c .nil))) r S = .ok [x.d, y.d, z.d] S3 := ea_cons h (ea2 h2 h3)
theorem ei_rng (h : evA L as r S = .ok ds S1) (h2 : rngV ds = some xs) : evI L (.rng as) r S = .ok xs S1 := rb h (run_of h2)
theorem ei_seq (h : ev L e r S = .ok x S1) (h2 : seqV x.d = some xs) : evI L (.seq e) r S = .ok xs S1 := rb h (run_of h2)
theorem ei_zip (h : ev L a r S = .ok x S1) (h1 : ev L b r S1 = .ok y S2) (h2 : zip2V x.d y.d = some xs) : evI L (.zip a b) r S = .ok xs S2 := rb h (rb h1 (run_of h2))
theorem ei_enum (h : ev L e r S = .ok x S1) (h2 : seqV x.d = some xs) : evI L (.enum e) r S = .ok (enumV xs) S1 := rb h (rb (run_of h2) rfl)
theorem cf_all {elt : CE} {tg : Tg} {own : List Nat} {v : D} (hb : bindTg tg d (wipeR r own) = some r') (he : ev L elt r' S = .ok y S1) (hv : y.d = v) : cF L elt tg .nil own r d S = .ok (some v) S1 := by
  unfold cF
  rw [hb, ← hv]
  exact rb (a := true) rfl (rb he rfl)
theorem cf_yes {elt : CE} {tg : Tg} {own : List Nat} {v : D} (hb : bindTg tg d (wipeR r own) = some r') (ht : ev L e r' S = .ok (.v (.bool true)) S1) (he : ev L elt r' S1 = .ok y S2) (hv : y.d = v) : cF L elt tg (.cons e .nil) own r d S = .ok (some v) S2 := by
  unfold cF
  rw [hb, ← hv]
  exact rb (a := true) (S1 := S1) (rb ht (rb (a := true) rfl rfl)) (rb he rfl)
theorem cf_no {elt : CE} {tg : Tg} {own : List Nat} (hb : bindTg tg d (wipeR r own) = some r') (ht : ev L e r' S = .ok (.v (.bool false)) S1) : cF L elt tg (.cons e .nil) own r d S = .ok none S1 := by
  unfold cF
  rw [hb]
  exact rb (a := false) (S1 := S1) (rb ht (rb (a := false) rfl rfl)) rfl
theorem cf_if {elt : CE} {tg : Tg} {own : List Nat} {u : Bool} {v : D} (hb : bindTg tg d (wipeR r own) = some r') (ht : ev L e r' S = .ok (.v (.bool u)) S) (he : u = true → ev L elt r' S = .ok y S) (hv : y.d = v) : cF L elt tg (.cons e .nil) own r d S = .ok (if u = true then some v else none) S := by
  cases u with
  | true => exact cf_yes hb ht (he rfl) hv
  | false => exact cf_no hb ht
/-! statements -/
variable {st : CS} {bl bl2 : CB}
theorem b_nil : exB L .nil r S = .ok (.nx r) S := rfl
theorem b_nx (h : exS L st r S = .ok (.nx r1) S1) (h2 : exB L bl r1 S1 = res) : exB L (.cons st bl) r S = res := rb h h2
theorem b_rt (h : exS L st r S = .ok (.rt o) S1) : exB L (.cons st bl) r S = .ok (.rt o) S1 := rb h rfl
theorem s_set (h : ev L e r S = .ok o S1) : exS L (.set i false e) r S = .ok (.nx (r.set i (.v o.d))) S1 := rb h rfl
theorem s_setO (h : ev L.pure e r S = .ok (.own ds) S1) : exS L (.set i true e) r S = .ok (.nx (r.set i (.own ds))) S1 := rb h rfl
theorem s_unp {t : Tg} (h : ev L e r S = .ok o S1) (hb : bindTg t o.d r = some r') : exS L (.unp t e) r S = .ok (.nx r') S1 := rb h (by
  show (match bindTg t o.d r with | some r' => pure (.nx r') | none => M.bad : M Fl) S1 = _
  rw [hb]
  rfl)
theorem s_par2 (hn : (a.isBor || b.isBor) = false) (h : ev L a r S = .ok x S1) (h2 : ev L b r S1 = .ok y S2) : exS L (.par2 i j a b) r S = .ok (.nx ((r.set i (.v x.d)).set j (.v y.d))) S2 := by
  show (if (a.isBor || b.isBor) = true then M.bad else (ev L a r >>= fun x => ev L b r >>= fun y => pure (.nx ((r.set i (.v x.d)).set j (.v y.d)))) : M Fl) S = _
  rw [hn]
  exact rb h (rb h2 rfl)
theorem s_app (hi : r[i]? = some (.own ds)) (h : ev L e r S = .ok x S1) (hl : ds.length < sizeLine) : exS L (.app i e) r S = .ok (.nx (r.set i (.own (ds ++ [x.d])))) S1 := by
  show (match r[i]? with | some (.own ds) => (ev L e r >>= fun x => if ds.length < sizeLine then pure (.nx (r.set i (.own (ds ++ [x.d])))) else M.bad) | _ => M.bad : M Fl) S = _
  rw [hi]
  exact rb h (by rw [if_pos hl]; rfl)
theorem s_ext (hi : r[i]? = some (.own ds)) (h : ev L e r S = .ok x S1) (hx : x.d = .list xs) (hl : ds.length + xs.length ≤ sizeLine) : exS L (.ext i e) r S = .ok (.nx (r.set i (.own (ds ++ xs)))) S1 := by
  show (match r[i]? with | some (.own ds) => (ev L e r >>= fun x => match x.d with | .list xs => if ds.length + xs.length ≤ sizeLine then pure (.nx (r.set i (.own (ds ++ xs)))) else M.bad | _ => M.bad) | _ => M.bad : M Fl) S = _
  rw [hi]
  exact rb h (by
    show (match x.d with | .list xs => if ds.length + xs.length ≤ sizeLine then pure (.nx (r.set i (.own (ds ++ xs)))) else M.bad | _ => M.bad : M Fl) S1 = _
    rw [hx]
    show (if ds.length + xs.length ≤ sizeLine then pure (.nx (r.set i (.own (ds ++ xs)))) else M.bad : M Fl) S1 = _
    rw [if_pos hl]
    rfl)
theorem s_setI (hp : L.pu = false) (h : ev L e r S = .ok x S1) (h2 : ev L a r S1 = .ok y S2) (h3 : ev L b r S2 = .ok z S3) {S4 : List SO} (h4 : setV S3 y.d z.d x.d = some S4) : exS L (.setI a b e) r S = .ok (.nx r) S4 := rb h (rb h2 (rb h3 (by
  show (if L.pu = true then R.bad else match setV S3 y.d z.d x.d with | some S' => R.ok (Fl.nx r) S' | none => .bad) = _
  rw [hp, h4]
  rfl)))
theorem s_drop (h : ev L e r S = .ok x S1) : exS L (.drop e) r S = .ok (.nx r) S1 := rb h rfl
theorem s_ite_t (h : ev L c r S = .ok (.v (.bool true)) S1) (h2 : exB L bl r S1 = res) : exS L (.ite c bl bl2) r S = res := rb h (rb (a := true) rfl h2)
theorem s_ite_f (h : ev L c r S = .ok (.v (.bool false)) S1) (h2 : exB L bl2 r S1 = res) : exS L (.ite c bl bl2) r S = res := rb h (rb (a := false) rfl h2)
noncomputable abbrev fF (L : Lk) (t : Tg) (b : CB) : D → Rho → M Fl := fun x r => match bindTg t x r with
      | some r' => exB L b r'
      | none => M.bad
theorem s_for {t : Tg} {it : CI} (h : evI L it r S = .ok xs S1) (h2 : forGo (fF L t bl) xs r S1 = res) : exS L (.for_ t it bl) r S = res := rb h h2
theorem ff_in {t : Tg} (hb : bindTg t d r = some r') (h : exB L bl r' S = res) : fF L t bl d r S = res := by
  unfold fF
  rw [hb]
  exact h
theorem s_ret (h : ev L e r S = .ok o S1) : exS L (.ret e) r S = .ok (.rt o) S1 := rb h rfl
theorem s_retO (hi : r[i]? = some (.own ds)) : exS L (.retO i) r S = .ok (.rt (.own ds)) S := by
  show (match r[i]? with | some (.own ds) => pure (.rt (.own ds)) | _ => M.bad : M Fl) S = _
  rw [hi]
  rfl
theorem s_retL (hn : as.nb = true) (hp : L.pu = false) (h : evA L as r S = .ok ds S1) (hl : ds.length ≤ sizeLine) : exS L (.retL as) r S = .ok (.rt (.v (.loc S1.length))) (S1 ++ [.lst ds]) := by
  show (if as.nb = true then (evA L as r >>= fun ds => (fun S => if L.pu = true then .bad else if ds.length ≤ sizeLine then .ok (.rt (.v (.loc S.length))) (S ++ [.lst ds]) else .bad)) else M.bad : M Fl) S = _
  rw [if_pos hn]
  exact rb h (by
    show (if L.pu = true then R.bad else if ds.length ≤ sizeLine then R.ok (Fl.rt (.v (.loc S1.length))) (S1 ++ [.lst ds]) else .bad) = _
    rw [hp, if_neg (by simp), if_pos hl])
theorem s_told {f : Fn} {due : CE} (hi : i < r.length) (ha : ev L.pure a r S = .ok (.own ds) S1) (hb : ev L.pure b r S1 = .ok y S2) (hz : ev L.pure due (r.set i .un) S2 = .ok z S3) (hc : L.callp f [.list [.list ds, y.d], z.d] S3 = .ok (.v (.bool true)) S3) (he : ev L.pure e (r.set i .un) S3 = .ok x S3) (hl : ds.length < sizeLine) :
    exS L (.told i a b f due e) r S = .ok (.nx (r.set i .un)) S3 := by
  show (if i < r.length then (ev L.pure a r >>= fun o => ev L.pure b r >>= fun y => match o with
    | .own ds => (ev L.pure due (r.set i .un) >>= fun z => M.nox (L.callp f [.list [.list ds, y.d], z.d]) >>= fun t => match t with
      | .v (.bool true) => (ev L.pure e (r.set i .un) >>= fun _ => if ds.length < sizeLine then pure (.nx (r.set i .un)) else M.bad)
      | .v (.bool false) => pure (.rt (.v (.bool false)))
      | _ => M.bad)
    | .v _ => M.bad) else M.bad : M Fl) S = _
  rw [if_pos hi]
  refine rb ha (rb hb (rb hz (rb (a := .v (.bool true)) (S1 := S3) (by unfold M.nox; rw [hc]) (rb he ?_))))
  rw [if_pos hl]
  rfl
/-! defs -/
variable {fd : FD}
theorem f_rt (hn : ds.length = fd.np) (h : exB L fd.body (start0 fd.ns ds) S = .ok (.rt o) S1) : runF L fd ds S = .ok o S1 := by
  unfold runF
  rw [if_pos hn]
  exact rb h rfl
theorem f_nx (hn : ds.length = fd.np) (h : exB L fd.body (start0 fd.ns ds) S = .ok (.nx r1) S1) : runF L fd ds S = .ok (.v .non) S1 := by
  unfold runF
  rw [if_pos hn]
  exact rb h rfl
end
/-! loops -/
theorem comp_pure {f : D → M (Option D)} {g : D → Option D} {S : List SO} : ∀ {items : List D}, (∀ x ∈ items, f x S = .ok (g x) S) → compGo f items S = .ok (items.filterMap g) S
  | [], _ => rfl
  | x :: xs, h => by
    have ih := comp_pure (f := f) (g := g) (S := S) (items := xs) fun y hy => h y (by simp [hy])
    refine (rb (h x (by simp)) (rb ih ?_) : (f x >>= fun r => compGo f xs >>= fun rs => pure (match r with | some d => d :: rs | none => rs)) S = _)
    cases hg : g x <;> simp [hg, List.filterMap_cons] <;> rfl
/-- items of one form -/
theorem comp_map {α : Type} {f : D → M (Option D)} {enc : α → D} {g : α → Option D} {S : List SO} {l : List α} (h : ∀ x ∈ l, f (enc x) S = .ok (g x) S) : compGo f (l.map enc) S = .ok (l.filterMap g) S := by
  induction l with
  | nil => rfl
  | cons x l ih =>
    refine (rb (h x (by simp)) (rb (ih fun y hy => h y (by simp [hy])) ?_) : (f (enc x) >>= fun r => compGo f (l.map enc) >>= fun rs => pure (match r with | some d => d :: rs | none => rs)) S = _)
    cases hg : g x <;> simp [hg, List.filterMap_cons] <;> rfl
/-- a loop that never returns, by what stands at the k-th turn -/
theorem for_inv {f : D → Rho → M Fl} {items : List D} (P : Nat → Rho → List SO → Prop) (h : ∀ k x r S, items[k]? = some x → P k r S → ∃ r' S', f x r S = .ok (.nx r') S' ∧ P (k + 1) r' S') {r : Rho} {S : List SO} (h0 : P 0 r S) : ∃ r' S', forGo f items r S = .ok (.nx r') S' ∧ P items.length r' S' := by
  have key : ∀ (l : List D) (k : Nat), k + l.length = items.length → items.drop k = l → ∀ r S, P k r S → ∃ r' S', forGo f l r S = .ok (.nx r') S' ∧ P items.length r' S' := by
    intro l
    induction l with
    | nil =>
      intro k hk e r S p
      have hk : k = items.length := hk
      exact ⟨r, S, rfl, hk ▸ p⟩
    | cons x l ih =>
      intro k hk e r S p
      have hx : items[k]? = some x := by
        have := congrArg (fun z : List D => z[0]?) e
        simpa using this
      obtain ⟨r1, S1, h1, p1⟩ := h k x r S hx p
      have e2 : items.drop (k + 1) = l := by
        rw [← List.drop_drop, e]
        rfl
      obtain ⟨r2, S2, h2, p2⟩ := ih (k + 1) (by rw [List.length_cons] at hk; omega) e2 r1 S1 p1
      exact ⟨r2, S2, rb h1 h2, p2⟩
  exact key items 0 (by simp) rfl r S h0
end Pb
end

section
set_option Elab.async false
set_option linter.all false
set_option maxRecDepth 100000
set_option maxHeartbeats 1000000
/-! Data of the laws: lots, probes, plans, answers. -/
namespace Pb
open PySem
def lotD (l : List Int) : D := .tuple (l.map .int)
def probesD (ps : List (List Int)) : D := .tuple (ps.map lotD)
def planD (t : Int) (ps : List (List Int)) : D := .tuple [.int t, probesD ps]
def oD : Option Int → D
  | none => .non
  | some i => .int i
def toldD (os : List (Option Int)) : D := .tuple (os.map oD)
theorem bools_map {α : Type} (g : α → Bool) : ∀ l : List α, D.bools (l.filterMap fun x => some (D.bool (g x))) = some (l.map g)
  | [] => rfl
  | x :: l => by
    show (D.bools (l.filterMap fun x => some (D.bool (g x)))).map (g x :: ·) = _
    rw [bools_map g l]
    rfl
theorem all_map {α : Type} (g : α → Bool) (l : List α) : allV [.list (l.filterMap fun x => some (D.bool (g x)))] = some (.v (.bool (l.all g))) := by
  show (D.bools _).map _ = _
  rw [bools_map]
  simp [List.all_map]
theorem any_map {α : Type} (g : α → Bool) (l : List α) : anyV [.list (l.filterMap fun x => some (D.bool (g x)))] = some (.v (.bool (l.any g))) := by
  show (D.bools _).map _ = _
  rw [bools_map]
  simp [List.any_map]
theorem atI_nat {α : Type} (xs : List α) (k : Nat) : L2.atI xs (k : Int) = xs[k]? := by
  unfold L2.atI L2.ixN
  rw [if_pos (Int.natCast_nonneg k)]
  by_cases h : k < xs.length
  · rw [if_pos (by omega)]
    simp
  · rw [if_neg (by omega)]
    simp [Nat.not_lt.mp h]
theorem atI_zadd {α : Type} (xs : List α) (k : Nat) : L2.atI xs (0 + (k : Int)) = xs[k]? := by rw [Int.zero_add, atI_nat]
theorem atI_zadd1 {α : Type} (xs : List α) (k : Nat) : L2.atI xs (0 + (k : Int) + 1) = xs[k + 1]? := by
  rw [Int.zero_add]
  exact atI_nat xs (k + 1)
theorem rng1 {j : Int} (h : -(2 ^ 62) ≤ j) (h2 : j ≤ 16777216) : rngV [.int j] = some ((List.range j.toNat).map fun (k : Nat) => .int (0 + k)) := by
  show (if -(2 ^ 62) ≤ j ∧ j ≤ 16777216 then _ else none) = _
  rw [if_pos ⟨h, h2⟩]
theorem sz {n : Nat} (h : n ≤ 1000000) : n ≤ sizeLine := by rw [sizeLine_eq]; omega
structure Rise (t : Int) (l : List Int) : Prop where
  up : l.Pairwise (· < ·)
  bd : ∀ x ∈ l, 0 ≤ x ∧ x < t
/-- comparisons of whole numbers -/
theorem c_le {i j : Int} : cmpV .le (.int i) (.int j) = some (decide (i ≤ j)) := rfl
theorem c_lt {i j : Int} : cmpV .lt (.int i) (.int j) = some (decide (i < j)) := rfl
theorem c_gt {i j : Int} : cmpV .gt (.int i) (.int j) = some (decide (j < i)) := rfl
theorem c_ge {i j : Int} : cmpV .ge (.int i) (.int j) = some (decide (j ≤ i)) := rfl
theorem shI (n : Nat) (i : Int) : D.sh n (.int i) = true := by cases n <;> rfl
theorem shL (n : Nat) (l : List Int) : D.sh (n + 1) (lotD l) = true := by
  show (l.map D.int).all (D.sh n) = true
  simp [shI]
theorem shO (n : Nat) (o : Option Int) : D.sh n (oD o) = true := by cases o <;> cases n <;> rfl
theorem eqvI (i j : Int) : D.eqv (.int i) (.int j) = decide (i = j) := by
  show (i == j) = _
  by_cases h : i = j <;> simp [h]
theorem eqvsI : ∀ xs ys : List Int, D.eqvs (xs.map .int) (ys.map .int) = decide (xs = ys)
  | [], [] => rfl
  | [], _ :: _ => rfl
  | _ :: _, [] => rfl
  | x :: xs, y :: ys => by
    show (D.eqv (.int x) (.int y) && D.eqvs (xs.map .int) (ys.map .int)) = _
    rw [eqvI, eqvsI]
    by_cases h1 : x = y <;> by_cases h2 : xs = ys <;> simp [h1, h2]
theorem eqvL (xs ys : List Int) : D.eqv (lotD xs) (lotD ys) = decide (xs = ys) := eqvsI xs ys
theorem c_eq {a b : D} (ha : a.sh 60 = true) (hb : b.sh 60 = true) : cmpV .eq a b = some (D.eqv a b) := by
  have : cmpV .eq a b = if (a.sh 60 && b.sh 60) = true then some (D.eqv a b) else none := by cases a <;> rfl
  rw [this, ha, hb]
  rfl
theorem c_ne {a b : D} (ha : a.sh 60 = true) (hb : b.sh 60 = true) : cmpV .ne a b = some (!D.eqv a b) := by
  have : cmpV .ne a b = if (a.sh 60 && b.sh 60) = true then some (!D.eqv a b) else none := by cases a <;> rfl
  rw [this, ha, hb]
  rfl
/-- one of a lot -/
theorem c_mem (i : Int) (l : List Int) : cmpV .mem (.int i) (lotD l) = some (decide (i ∈ l)) := by
  show (if (D.sh 60 (.int i) && (l.map D.int).all (D.sh 60)) = true then some ((l.map D.int).any fun y => D.eqv y (.int i)) else none) = _
  rw [if_pos (by simp [shI])]
  congr 1
  induction l with
  | nil => rfl
  | cons y l ih =>
    rw [List.map_cons, List.any_cons, ih, eqvI]
    by_cases h : y = i
    · simp [h]
    · have : ¬ i = y := fun z => h z.symm
      by_cases h2 : i ∈ l <;> simp [h, h2, this]
theorem c_nmem (i : Int) (l : List Int) : cmpV .nmem (.int i) (lotD l) = some (!decide (i ∈ l)) := by
  have := c_mem i l
  show (memV (.int i) (lotD l)).map (!·) = _
  rw [show memV (.int i) (lotD l) = some (decide (i ∈ l)) from this]
  rfl
end Pb
end

section
set_option Elab.async false
set_option linter.all false
set_option maxRecDepth 100000
set_option maxHeartbeats 1000000
/-! What is refused: classes of exceptions, their making, raise. -/
namespace Pb
open PySem PySem.Spec PyProof.Rows L2
/-! ### what the written part says of a class of exceptions -/
def oexB (K : PySem.W.Frag) (C : Addr) : Bool := (match K.lookup C with
  | some ⟨.type "type", _, .cls cd, sl⟩ => (match cd.mro, sl.toList with
    | .ref C' :: bm, [_, _, _, _, some (.builtin n), _] => (C' == C) && ((n == "ValueError.__new__") && (!cd.hasDel && (cd.hasDict && PySem.HandSPX.refsVE bm)))
    | _, _ => false)
  | _ => false) && (decide (PySem.W.findIn K (.ref C) "__setattr__" = some (some (.builtin "object.__setattr__"))) && (decide (PySem.W.subIn K (.ref C) (.type "BaseException") = some true) && (decide (PySem.W.typeIn K (.ref C) = some (.type "type")) && PySem.W.keepIn K (.ref C))))
theorem oexB_ok {K : PySem.W.Frag} {C : Addr} (h : oexB K C = true) : OexC K C := by
  unfold oexB at h
  rw [Bool.and_eq_true, Bool.and_eq_true, Bool.and_eq_true, Bool.and_eq_true, decide_eq_true_eq, decide_eq_true_eq, decide_eq_true_eq] at h
  obtain ⟨h1, h2, h3, h4, h5⟩ := h
  refine ⟨?_, h2, h3, h4, h5⟩
  split at h1
  · rename_i dd cd sl ho
    split at h1
    · rename_i C' bm k0 k1 k2 k3 n k5 hm hs
      simp only [Bool.and_eq_true, beq_iff_eq, Bool.not_eq_true'] at h1
      obtain ⟨rfl, rfl, e3, e4, e5⟩ := h1
      obtain ⟨nm, bs, mro, ns, qn, hd, sn, sub, ab, col, del⟩ := cd
      dsimp only at hm e3 e4
      subst hm e3 e4
      have hsl : sl = #[k0, k1, k2, k3, some (.builtin "ValueError.__new__"), k5] := by
        obtain ⟨l⟩ := sl
        simp only at hs
        rw [hs]
      subst hsl
      exact ⟨nm, qn, ns, bs, bm, sn, sub, ab, col, dd, k0, k1, k2, k3, k5, ho, e5⟩
    · cases h1
  · cases h1
def excB (K : PySem.W.Frag) (D : Addr) : Bool := decide (PySem.W.findIn K (.ref D) "__getattribute__" = some (some (.builtin "BaseException.__getattribute__"))) && (decide (PySem.W.findIn K (.ref D) "__getattr__" = some none) && (decide (PySem.W.subIn K (.ref D) (.type "BaseException") = some true) &&
  (PySem.W.hasDictIn K D && (decide (PySem.W.findIn K (.ref D) "__class__" = some (some (.builtin "object.__class__"))) && (decide (PySem.W.specialIn K (.builtin "object.__class__") "__get__" = some (some (.builtin "getset_descriptor.__get__"))) && (decide (PySem.W.takesIn K (.builtin "object.__class__") = some true) && decide (PySem.W.mroIn K D (.type "object") = some true)))))))
theorem excB_ok {K : PySem.W.Frag} {D : Addr} (h : excB K D = true) : ExcC K D := by
  unfold excB at h
  simp only [Bool.and_eq_true, decide_eq_true_eq] at h
  obtain ⟨h1, h2, h3, h4, h5, h6, h7, h8⟩ := h
  exact ⟨h1, h2, h3, h4, h5, h6, h7, h8⟩
/-! ### how such a class's instance is made -/
/-- P.__init__(self, ..), P a class over ValueError that has no __init__ -/
structure InI (K : PySem.W.Frag) (C : Addr) : Prop where
  ga : PySem.W.specialIn K (.ref C) "__getattribute__" = some (some (.builtin "type.__getattribute__"))
  rd : PySem.W.readsIn K C (.type "type") = true
  fi : PySem.W.findCls K (.ref C) (.type "type") "__init__" = some (.val (.builtin "ValueError.__init__"))
section
variable {X : Cx} {e : Expr} {es : List Expr} {ta : TA} {x : Str} {C : Addr} {p1 p2 pos : Pos}
theorem pe_pinit {pl : Sem Bool} (hg : Gl X x) (hm : X.mg x = some (.ref C)) (T : InI X.K C) (ha : PA X (e :: es) ta)
    (hc : eval (.Call (.Attribute (.Name x p1) "__init__" p2) (e :: es) [] pos) X.env = (do
      let o ← eval (.Name x p1) X.env
      standAt p2.atName
      let (g, fst) ← holding [o] (getMethod o "__init__" pl)
      callWith pos g fst (backTo pos (starEach (e :: es) X.env)) (backToKw pos (keywordEach [] X.env))))
    (hdb : (x == ("__debug__" : Str)) = false := by decide)
    (he : starEach (e :: es) X.env = (false, eval e X.env) :: starEach es X.env := by rfl) (hpl : (backTo pos (starEach es X.env)).any (·.1) = false := by rfl) :
    PE X (.Call (.Attribute (.Name x p1) "__init__" p2) (e :: es) [] pos) (tVeI X.K ta) := by
  refine ⟨fun pn st σ H Q I h => ?_⟩
  refine PySem.W.methodCall_KW (ld_glob I hg hm ?_ hdb) hc
  refine PySem.W.method_cls I.kIn T.ga (PySem.W.cls_value I.kIn T.rd T.fi (by decide +kernel) ?_)
  show wpAny _ _ (callWith pos (Value.builtin "ValueError.__init__") [] (backTo pos (starEach (e :: es) X.env)) []) _ _ _
  refine PyProof.Rows.callWith_method1 (thn (ha.run pos pn _ σ H _ (I.tok _) h) fun us t ⟨vs, H1, I1, r1, a, C', ws, ev, hl, T', ea, q⟩ => ?_) he hpl
  subst ev
  cases r1 with
  | @cons _ u0 _ ur ra rw' =>
    obtain rfl : u0 = Value.ref a := ra
    have hlen : ur.length ≤ sizeLine := by
      rw [← Paired.length rw', sizeLine_eq]
      omega
    exact oinit_ok T' I1 ea hlen fun s' J => ⟨.non, H1, J, rfl, q⟩
end
end Pb
end

section
set_option Elab.async false
set_option linter.all false
set_option maxRecDepth 100000
set_option maxHeartbeats 1000000
/-! The making of an exception with its number, and raise. -/
namespace Pb
open PySem PySem.Spec PyProof.Rows L2
/-- C(v): its dict holds what it got -/
def spI (C : Addr) (nm : Str) (fmt : Bool) : Sp := fun vs H Q _ => ∃ a v, vs = [.ref a, v] ∧ (fmt = true → ∃ i : Int, v = .int i ∧ smallI i = true) ∧ H a = some (exo a C none) ∧
  ∀ dx, H dx = none → dx ≠ a → Q .non (upd (upd H dx (exd dx [(nm, v)])) a (exo a C (some dx)))
section
variable {P : Program} {w : World} {K : PySem.W.Frag} {mg : Str → Option Value} {base : Heap} {n : Nat} {x qual nm nv msg : Str} {f C B : Addr} {fd : FuncData} {params : Arguments} {body : List Stmt} {sc : Scope} {j : Nat}
theorem digits_ok {i : Int} (h : smallI i = true) : i.natAbs.log2 < 64 := by
  unfold smallI at h
  rw [Bool.and_eq_true, decide_eq_true_eq, decide_eq_true_eq] at h
  have h2 : i.natAbs < 2 ^ 64 := by omega
  by_cases h0 : i.natAbs = 0
  · rw [h0]
    decide
  · exact (Nat.log2_lt h0).mpr h2
theorem fmt_fits {i : Int} (h : smallI i = true) : (Str.ofString (toString i)).length ≤ 1000 := by
  have := int_text_length_le (k := 64) (by decide) (digits_ok h)
  rw [PySem.ofString_length]
  omega
/-- __init__(self, number): P.__init__(self, f"msg{number}"); self.nm = number -/
theorem fn_iniF (F : FunD K x qual params body sc [] [] f fd) (S : FnScope ["self", nv] ["self", nv] sc) (hm : mg ("ProbeError" : Str) = some (.ref B)) (T : InI K B) (TC : OexC K C) (hno : PySem.W.findIn K (.ref C) nm = some none) (hmsg : msg.length ≤ 1000)
    (hg : ∀ X : Cx, X.env.scope = sc → Gl X ("ProbeError" : Str)) (hv0 : Vis sc "self") (hv1 : Vis sc nv) (hd1 : (nv == ("__debug__" : Str)) = false) (hc1 : (nv == ("__classdict__" : Str)) = false) {p1 p2 p3 p4 p5 p6 p7 p8 p9 p10 p11 p12 p13 : Pos}
    (hcl : ∀ env, eval (.Call (.Attribute (.Name "ProbeError" p1) "__init__" p2) [.Name "self" p3, .JoinedStr [.Constant (.str msg) j p4, .FormattedValue (.Name nv p5) (-1) none p6] p7] [] p8) env = (do
      let o ← eval (.Name "ProbeError" p1) env
      standAt p2.atName
      let (g, fst) ← holding [o] (getMethod o "__init__" (do return (← importBound (.Name "ProbeError" p1) env).getD true))
      callWith p8 g fst (backTo p8 (starEach [.Name "self" p3, .JoinedStr [.Constant (.str msg) j p4, .FormattedValue (.Name nv p5) (-1) none p6] p7] env)) (backToKw p8 (keywordEach [] env))))
    (hbd : body = [.Expr (.Call (.Attribute (.Name "ProbeError" p1) "__init__" p2) [.Name "self" p3, .JoinedStr [.Constant (.str msg) j p4, .FormattedValue (.Name nv p5) (-1) none p6] p7] [] p8) p9, .Assign [.Attribute (.Name "self" p10) nm p11] (.Name nv p12) p13]) :
    FnOk P w K mg base (L2.CX P w) (n + 1) f fd ["self", nv] (spI C nm true) := by
  obtain ⟨oc, od, dV, kV, doc, pm, an, cdv, ct, osl, rfl, lk, hcd, _, _⟩ := F.ex
  refine fn_of lk hcd S (fun vs H Q E h => ?_) fun A outer s H vs Q E hr h => ?_
  · obtain ⟨a, v, rfl, _⟩ := h
    rfl
  · obtain ⟨a, v, rfl, hf, ha, q⟩ := h
    obtain ⟨i, rfl, hi⟩ := hf rfl
    subst hbd
    refine ⟨_, pss_cons (ps_expr (pe_pinit (hg _ rfl) hm T (pa_cons (pe_var (i := 0) rfl hv0) (pa_cons (pe_joined (.cons pe_str (.cons (pe_fmt (pe_var (i := 1) rfl hv1 hd1 hc1)) .nil))) pa_nil)) (hcl _))) (pss_one (ps_ost (pe_var (i := 0) rfl hv0) (pe_var (i := 1) rfl hv1 hd1 hc1))), ?_⟩
    have hz1 : (Str.empty ++ msg).length ≤ 1000 := by
      rw [show (Str.empty ++ msg).length = Str.empty.length + msg.length from PySem.Str.length_append _ _]
      exact (show 0 + msg.length ≤ 1000 by omega)
    have hz2 : ((Str.empty ++ msg) ++ Str.ofString (toString i)).length ≤ 2000 := by
      rw [show ((Str.empty ++ msg) ++ Str.ofString (toString i)).length = (Str.empty ++ msg).length + (Str.ofString (toString i)).length from PySem.Str.length_append _ _]
      have := fmt_fits hi
      omega
    refine ⟨.ref a, rfl, msg, rfl, sz (by omega), .int i, rfl, .inr ⟨i, rfl, Nat.lt_of_lt_of_le (digits_ok hi) (by decide), Str.ofString (toString i), rfl, sz (by omega), ?_⟩⟩
    refine ⟨a, C, _, rfl, by simp, TC, ha, .int i, rfl, .ref a, rfl, a, C, rfl, TC, hno, .inl ⟨ha, fun dx h1 h2 => q dx h1 h2⟩⟩
end
end Pb
end

section
set_option Elab.async false
set_option linter.all false
set_option maxRecDepth 100000
set_option maxHeartbeats 1000000
/-! raise. -/
namespace Pb
open PySem PySem.Spec PyProof.Rows L2
section
variable {P : Program} {w : World} {K : PySem.W.Frag} {mg : Str → Option Value} {base : Heap} {n : Nat} {x qual nm nv msg : Str} {f C B : Addr} {fd : FuncData} {params : Arguments} {body : List Stmt} {sc : Scope} {j : Nat}
/-- __init__(self, way): P.__init__(self, "msg"); self.nm = way -/
theorem fn_iniC (F : FunD K x qual params body sc [] [] f fd) (S : FnScope ["self", nv] ["self", nv] sc) (hm : mg ("ProbeError" : Str) = some (.ref B)) (T : InI K B) (TC : OexC K C) (hno : PySem.W.findIn K (.ref C) nm = some none)
    (hg : ∀ X : Cx, X.env.scope = sc → Gl X ("ProbeError" : Str)) (hv0 : Vis sc "self") (hv1 : Vis sc nv) (hd1 : (nv == ("__debug__" : Str)) = false) (hc1 : (nv == ("__classdict__" : Str)) = false) {p1 p2 p3 p4 p8 p9 p10 p11 p12 p13 : Pos}
    (hcl : ∀ env, eval (.Call (.Attribute (.Name "ProbeError" p1) "__init__" p2) [.Name "self" p3, .Constant (.str msg) j p4] [] p8) env = (do
      let o ← eval (.Name "ProbeError" p1) env
      standAt p2.atName
      let (g, fst) ← holding [o] (getMethod o "__init__" (do return (← importBound (.Name "ProbeError" p1) env).getD true))
      callWith p8 g fst (backTo p8 (starEach [.Name "self" p3, .Constant (.str msg) j p4] env)) (backToKw p8 (keywordEach [] env))))
    (hbd : body = [.Expr (.Call (.Attribute (.Name "ProbeError" p1) "__init__" p2) [.Name "self" p3, .Constant (.str msg) j p4] [] p8) p9, .Assign [.Attribute (.Name "self" p10) nm p11] (.Name nv p12) p13]) :
    FnOk P w K mg base (L2.CX P w) (n + 1) f fd ["self", nv] (spI C nm false) := by
  obtain ⟨oc, od, dV, kV, doc, pm, an, cdv, ct, osl, rfl, lk, hcd, _, _⟩ := F.ex
  refine fn_of lk hcd S (fun vs H Q E h => ?_) fun A outer s H vs Q E hr h => ?_
  · obtain ⟨a, v, rfl, _⟩ := h
    rfl
  · obtain ⟨a, v, rfl, hf, ha, q⟩ := h
    subst hbd
    refine ⟨_, pss_cons (ps_expr (pe_pinit (hg _ rfl) hm T (pa_cons (pe_var (i := 0) rfl hv0) (pa_cons pe_str pa_nil)) (hcl _))) (pss_one (ps_ost (pe_var (i := 0) rfl hv0) (pe_var (i := 1) rfl hv1 hd1 hc1))), ?_⟩
    refine ⟨.ref a, rfl, ?_⟩
    refine ⟨a, C, _, rfl, by simp, TC, ha, v, rfl, .ref a, rfl, a, C, rfl, TC, hno, .inl ⟨ha, fun dx h1 h2 => q dx h1 h2⟩⟩
end
section
variable {X : Cx} {ca : Ca} {Ex : XK} {M0 : Addr → Prop} {L : Lk} {pos cpos np : Pos} {k : Ec} {x : Str} {C : Addr}
/-- raise C("..") -/
theorem ss_raise0 {m : Str} {j : Nat} {p2 : Pos} (hc : X.calm = true) (tk : Takes X (WO Ex)) (q : PySem.W.excIn X.K C He.veBase "ValueError.__new__" = true) (gC : X.mg x = some (.ref C)) (kC : PySem.W.keepIn X.K (.ref C) = true) (bC : PySem.W.subIn X.K (.ref C) (.type "BaseException") = some true)
    (tC : PySem.W.typeIn X.K (.ref C) = some (.type "type")) (hg : Gl X x) (hca : ca.cls k = C) (hn : exNames k = []) (hdb : (x == ("__debug__" : Str)) = false) :
    SS X ca Ex M0 L (.Raise (some (.Call (.Name x np) [.Constant (.str m) j p2] [] cpos)) none pos) (.raise k .nil) := imS (ps_raise hc tk (pmk_own PySem.F.excBase_ValueError q gC kC (raises_own bC tC) hg hdb)) fun D σ H h => by
  obtain ⟨O, al, S, r, he, hs, hgl⟩ := h
  have hgl : GoalS X.K ca L.pu Ex M0 O al S H ((if okX k [] = true then M.exc ⟨k, []⟩ else M.bad : M Fl) S) D.nx D.rt := hgl
  split at hgl
  · exact (show GoalS X.K ca L.pu Ex M0 O al S H (.exc ⟨k, []⟩ S) D.nx D.rt from hgl) _ _ H O al (Step.refl hs) ⟨by rw [hca], .inl ⟨hn, rfl⟩⟩
  · exact hgl.elim
/-- what the making of an exception with one attribute asks -/
structure MkX (X : Cx) (n : Nat) (C fI : Addr) (fd : FuncData) (nv nm : Str) (fmt : Bool) : Prop where
  T : OexC X.K C
  iC : PySem.W.findIn X.K (.ref C) "__init__" = some (some (.ref fI))
  tI : PySem.W.typeIn X.K (.ref fI) = some (.type "function")
  ok : FnOk X.prog X.w X.K X.mg X.base (L2.CX X.prog X.w) n fI fd ["self", nv] (spI C nm fmt)
  bd : Binds X.K fd ["self", nv] []
theorem okX1 {k : Ec} {d : D} {nm : Str} {fmt : Bool} (hn : exNames k = [nm]) (hf : fmt = decide (k ≠ .badTree)) (h : okX k [d] = true) : fmt = true → ∃ i : Int, d = .int i ∧ smallI i = true := fun e => by
  subst hf
  cases k <;> first | (cases hn; done) | skip
  all_goals first
    | (cases d with
        | int i => exact ⟨i, rfl, h⟩
        | _ => cases h)
    | (exact absurd e (by decide))
theorem ss_raise1 {e : Expr} {c : CE} {n : Nat} {fI : Addr} {fd : FuncData} {nv nm : Str} {fmt : Bool} (hc : X.calm = true) (tk : Takes X (WO Ex)) (T : MkX X n C fI fd nv nm fmt) (hr : Room (n + 1) X.A) (gC : X.mg x = some (.ref C)) (hg : Gl X x) (hca : ca.cls k = C) (hn : exNames k = [nm]) (hf : fmt = decide (k ≠ .badTree))
    (hdb : (x == ("__debug__" : Str)) = false) (hb : c.isBor = false) (he : SA X ca (WO Ex) L [e] (.cons c .nil)) (hst : starEach [e] X.env = (false, eval e X.env) :: starEach [] X.env) :
    SS X ca Ex M0 L (.Raise (some (.Call (.Name x np) [e] [] cpos)) none pos) (.raise k (.cons c .nil)) := imS (ps_raise hc tk (pmk_oex (ds := []) (dvs := []) T.T T.iC T.tI T.ok hr T.bd .nil (passes_call tk fun _ _ _ _ h => h.elim) hg gC he hdb hst)) fun D σ H h => by
  obtain ⟨O, al, S, r, hen, hs, hgl⟩ := h
  have hgl : GoalS X.K ca L.pu Ex M0 O al S H ((if (CA.cons c .nil).nb = true then (evA L (.cons c .nil) r >>= fun ds => if okX k ds = true then M.exc ⟨k, ds⟩ else M.bad) else M.bad : M Fl) S) D.nx D.rt := hgl
  have hnb : (CA.cons c .nil).nb = true := by
    show (!c.isBor && true) = true
    rw [hb]
    rfl
  rw [if_pos hnb] at hgl
  refine ⟨_, al, S, r, hen.env, hs, GoalS.seq (Rel1 := RArgs X.K (CA.cons c .nil).nb) hgl fun ds S1 al1 vs H1 p r1 g1 => ?_⟩
  have r1 := r1.2 hnb
  have s1 := (Step.ofPost p).st
  split at g1
  · rename_i hok
    obtain ⟨d, rfl⟩ : ∃ d, ds = [d] := by
      cases ds with
      | nil => cases k <;> first | (cases hok; done) | cases hn
      | cons d ds =>
        cases ds with
        | nil => exact ⟨d, rfl⟩
        | cons d2 ds => cases ds <;> cases k <;> first | (cases hn; done) | (cases d <;> first | (cases hok; done) | (cases d2 <;> cases hok))
    cases r1 with
    | @cons v _ _ _ rv rn =>
    cases rn
    refine ⟨by simp, fun a ha => ⟨a, v, rfl, fun hft => ?_, upd_same, fun dx h1 h2 => ⟨rfl, dx, [(nm, v)], upd_same, ?_, ?_, ?_⟩⟩⟩
    · obtain ⟨i, ed, hs⟩ := okX1 hn hf hok hft
      rw [ed] at rv
      cases rv
      exact ⟨i, rfl, hs⟩
    · rw [upd_ne h2, upd_same]
    · rw [upd_ne h2] at h1
      exact h1
    · have h1' : H1 dx = none := by
        rw [upd_ne h2] at h1
        exact h1
      have eH : upd (del (upd (upd (upd H1 a (exo a C none)) dx (exd dx [(nm, v)])) a (exo a C (some dx))) a) dx (.xd [(nm, v)]) = upd H1 dx (.xd [(nm, v)]) := by
        funext b
        by_cases hb1 : b = dx
        · rw [hb1, upd_same, upd_same]
        · rw [upd_ne hb1, upd_ne hb1]
          by_cases hb2 : b = a
          · rw [hb2, del_same, ha]
          · rw [del_ne hb2, upd_ne hb2, upd_ne hb1, upd_ne hb2]
      show Ex (.ref C) (some dx) _
      rw [eH]
      have sm : Same H1 (upd H1 dx (.xd [(nm, v)])) := same_upd h1'
      refine (show GoalS X.K ca L.pu Ex M0 O al1 S1 H1 (.exc ⟨k, [d]⟩ S1) D.nx D.rt from g1) _ _ _ O al1 (Step.ofPost (Post.same s1 sm)) ⟨by rw [hca], .inr ⟨dx, _, rfl, upd_same, fun i nm' e' h4 h5 => ?_⟩⟩
      rw [hn] at h4
      cases i with
      | zero =>
        cases h4
        cases h5
        exact ⟨v, by simp [List.lookup], Rep.less (fun a z => z.elim .inl fun z => .inr (.inl z)) (rv.go ⟨fun a o' _ q _ => sm a o' q, fun _ _ h _ _ => h, fun _ _ h => h⟩)⟩
      | succ i => cases h4
  · exact g1.elim
end
end Pb
end

section
set_option Elab.async false
set_option linter.all false
set_option maxRecDepth 100000
set_option maxHeartbeats 1000000
/-! What an except suite asks: xs.count(True), xs.index(True), isinstance(e, C). -/
namespace Pb
open PySem PySem.Spec PyProof.Rows L2
def rCntF (K : PySem.W.Frag) : V → List V → Hp → VK → Prop := fun x xs H Q => ∃ (a : Addr) (ys : List V) (y : V), x = .ref a ∧ xs = [y] ∧ SqL K H a ys ∧ flatV y = true ∧ ys.all flatV = true ∧ Q (.int (ys.countP (fun z => eqV z y) : Nat)) H
theorem cntP_eqU {y : V} : ∀ {ys : List V} {us : List Value}, Vals ys us → ys.all flatV = true → us.countP (eqU y) = ys.countP (fun z => eqV z y)
  | _, _, .nil, _ => rfl
  | z :: ys, u :: us, .cons r t, h => by
    rw [List.all_cons, Bool.and_eq_true] at h
    rw [List.countP_cons, List.countP_cons, cntP_eqU t h.2, eqU_of r h.1]
theorem mt_countF {X : Cx} : MtR X "list.count" (rCntF X.K) := by
  intro pn st σ H x xs v us Q I rx rxs h
  obtain ⟨a, ys, y, rfl, rfl, hs, fy, fys, q⟩ := h
  cases rx
  obtain ⟨uy, rfl, ry⟩ := rxs.one
  obtain ⟨its, rv, ⟨⟨cls, dd, data, sl⟩, k, ho, hc, hdn, hd⟩, hlen⟩ := I.list hs
  simp only at hc hd
  subst hc hd
  refine call_meets PySem.F.slot_list_count ⟨_, ho, rfl⟩ PySem.F.entry_list_count (PySem.F.args_list_count_2 _ _)
    (SeqAt.list_countAt a its.toArray k dd sl uy (eqU y)) ⟨ho, fun u' hu' => mem_eqAt ry fy rv fys u' (by simpa using hu'), ?_⟩
  refine ⟨.int (ys.countP (fun z => eqV z y) : Nat), H, I.tok _, ⟨st.toks, ?_⟩, q⟩
  show Value.int ((its.toArray.toList.countP (eqU y) : Nat) : Int) st.toks = _
  rw [show its.toArray.toList = its from rfl, cntP_eqU rv fys]
section
variable {X : Cx} {ca : Ca} {W : WX} {L : Lk} {apos pos bp : Pos} {j : Nat}
theorem flat_bools (bs : List Bool) : (bs.map V.bl).all flatV = true := by
  rw [List.all_map]
  exact List.all_eq_true.mpr fun b _ => rfl
theorem bm_imp {c : CE} {p : Prim} {r : V → List V → Hp → VK → Prop} {id : String}
    (ok : ∀ (Mu : Addr → Prop) (al : List Addr) (S : List SO) (H : Hp) (Q : VK) (Ex : XK) (v : V) (d : D) (o : Out), StR X.K ca Mu al S H → RepB X.K Mu al H v d → primV p [d] = some o → Goal X.K ca L.pu Ex Mu al S H (ROut X.K false) (.ok o S) Q → tyV X.K "list" v H ∧ r v [.bl true] H Q)
    (σ : L2.St) (H : Hp) (Q : VK) (h : tD X.K ca W L.pu false (ev L (.prim p (.cons c .nil))) σ H Q) : tBM X.K "list" r (tD X.K ca W L.pu c.isBor (ev L c)) (tCons (tC (.bl true)) tNil) σ H Q := by
  obtain ⟨Mu, al, S, r', he, hs, hg⟩ := h
  have e : (evA L (.cons c .nil) r' >>= fun ds => ofOpt (primV p ds)) = (ev L c r' >>= fun o => ofOpt (primV p [o.d])) := by
    show ((ev L c r' >>= fun x => evA L .nil r' >>= fun xs => pure (x.d :: xs)) >>= fun ds => ofOpt (primV p ds)) = _
    rw [M.bind_assoc]
    rfl
  have hg : Goal X.K ca L.pu _ Mu al S H (ROut X.K false) ((evA L (.cons c .nil) r' >>= fun ds => ofOpt (primV p ds)) S) Q := hg
  rw [e] at hg
  refine ⟨Mu, al, S, r', he, hs, Goal.seq mono_out hg fun o S1 al1 v H1 p1 r1 g1 => ?_⟩
  cases q : primV p [o.d] with
  | none =>
    rw [q] at g1
    exact g1.elim
  | some o2 =>
    rw [q] at g1
    exact ok _ al1 S1 H1 Q _ v o.d o2 p1.st (r1.repB p1.st) q g1
theorem cnt_bools (bs : List Bool) : (bs.map V.bl).countP (fun z => eqV z (.bl true)) = bs.count true := by
  rw [List.countP_map]
  unfold List.count
  congr 1
theorem snd_cntT {o : Expr} {c : CE} (hb : attributeBase o "count" X.env (eval o X.env) = eval o X.env) (hl : (apos.endLine == pos.line) = true) (h : SE X ca W L o c) : SE X ca W L (.Call (.Attribute o "count" apos) [.Constant (.bool true) j bp] [] pos) (.prim .cntT (.cons c .nil)) :=
  imE (pe_bm PySem.F.plainAttrs_list PySem.F.slot_list_count PySem.F.type_list_count mt_countF h (pa_cons pe_bl pa_nil) hb (by rfl) hl) (bm_imp (id := "") fun Mu al S H Q Ex v d o' hs r hp g => by
    replace hp : cntV [d] = some o' := hp
    unfold cntV at hp
    split at hp
    · rename_i xs e
      cases e
      obtain ⟨a, ys, rfl, h1, h3⟩ := r.list
      cases q : D.bools xs with
      | none => rw [q] at hp; cases hp
      | some bs =>
        rw [q] at hp
        cases hp
        rw [bools_rep h3 q] at h1
        refine ⟨.inl ⟨rfl, _, SqL.of h1⟩, a, _, _, rfl, rfl, SqL.of h1, rfl, flat_bools bs, ?_⟩
        rw [cnt_bools]
        exact Goal.val g hs (.int _)
    · cases hp)
theorem ix_bools : ∀ (bs : List Bool), bs.idxOf true < bs.length → bs[bs.idxOf true]? = some true ∧ ∀ m b, m < bs.idxOf true → bs[m]? = some b → b = false
  | [], h => by simp at h
  | true :: bs, h => ⟨by simp, fun m b hm => by simp at hm⟩
  | false :: bs, h => by
    have e : (false :: bs).idxOf true = bs.idxOf true + 1 := by simp [List.idxOf_cons]
    rw [e] at h ⊢
    obtain ⟨h1, h2⟩ := ix_bools bs (by simpa using h)
    refine ⟨by simpa using h1, fun m b hm hb => ?_⟩
    cases m with
    | zero => simpa using hb.symm
    | succ m => exact h2 m b (by omega) (by simpa using hb)
theorem snd_ixT {o : Expr} {c : CE} (hb : attributeBase o "index" X.env (eval o X.env) = eval o X.env) (hl : (apos.endLine == pos.line) = true) (h : SE X ca W L o c) : SE X ca W L (.Call (.Attribute o "index" apos) [.Constant (.bool true) j bp] [] pos) (.prim .ixT (.cons c .nil)) :=
  imE (pe_bm PySem.F.plainAttrs_list PySem.F.slot_list_index PySem.F.type_list_index mt_index h (pa_cons pe_bl pa_nil) hb (by rfl) hl) (bm_imp (id := "") fun Mu al S H Q Ex v d o' hs r hp g => by
    replace hp : ixtV [d] = some o' := hp
    unfold ixtV at hp
    split at hp
    · rename_i xs e
      cases e
      obtain ⟨a, ys, rfl, h1, h3⟩ := r.list
      cases q : D.bools xs with
      | none => rw [q] at hp; cases hp
      | some bs =>
        rw [q] at hp
        replace hp : (if bs.idxOf true < bs.length then some (Out.v (.int (bs.idxOf true : Nat))) else none) = some o' := hp
        split at hp
        · rename_i hlt
          cases hp
          rw [bools_rep h3 q] at h1
          obtain ⟨i1, i2⟩ := ix_bools bs hlt
          refine ⟨.inl ⟨rfl, _, SqL.of h1⟩, a, _, _, bs.idxOf true, .bl true, rfl, rfl, SqL.of h1, rfl, flat_bools bs, by rw [List.getElem?_map, i1]; rfl, rfl, fun m z hm hz => ?_, Goal.val g hs (.int _)⟩
          rw [List.getElem?_map] at hz
          cases hb' : bs[m]? with
          | none => rw [hb'] at hz; cases hz
          | some b =>
            rw [hb'] at hz
            cases hz
            rw [i2 m b hm hb']
            rfl
        · cases hp
    · cases hp)
end
end Pb
end

section
set_option Elab.async false
set_option linter.all false
set_option maxRecDepth 100000
set_option maxHeartbeats 1000000
/-! In an except suite: isinstance(e, C), e.number. -/
namespace Pb
open PySem PySem.Spec PyProof.Rows L2
/-- isinstance(e, c) of a caught exception, its own dict told or none -/
def rIsD (K : PySem.W.Frag) (a : Addr) (cls : Value) (d : Option Addr) : List V → Hp → VK → Prop := fun xs H Q => ∃ (D : Addr) (c : V) (cv : Value) (b : Bool), cls = .ref D ∧ ExcC K D ∧ (d = none ∨ ∃ dd fs, d = some dd ∧ H dd = some (.xd fs)) ∧
  xs = [.ref a, c] ∧ (∀ u, RelV c u → u = cv) ∧ PySem.W.kitOne K (.ref D) cv = some b ∧ Q (.bl b) H
theorem call_isD {X : Cx} {a : Addr} {cls : Value} {d : Option Addr} {oe : Obj} {pn : List (Addr × Obj)} (hz : Zc cls d oe) (hf : ∃ vs, oe.data = .fields vs) : CallR (X.suite a ((a, oe) :: pn)) (.builtin "isinstance") (rIsD X.K a cls d) := by
  intro pins s σ H xs us Q I r h
  obtain ⟨D, c, cv, b, rfl, C, hd, rfl, hcv, e, q⟩ := h
  cases r with
  | cons rx rr =>
    cases rr with
    | cons rt rr =>
    cases rr
    cases rx
    have ec := hcv _ rt
    subst ec
    obtain ⟨hget, _⟩ := I.pin (a, oe) (List.mem_append.mpr (.inl List.mem_cons_self))
    obtain ⟨vs, hv⟩ := hf
    have hcl : (PySem.W.clsIn X.K D).isSome = true := by
      obtain ⟨cd, hc, _⟩ := PySem.W.any_some C.hd
      rw [hc]
      rfl
    have J : ∃ od, PySem.W.InstAt s.heap a oe D od := by
      rcases hd with rfl | ⟨dd, fs, rfl, hx⟩
      · exact ⟨none, hget, hz.1, by unfold PySem.W.notCls; rw [hv] <;> rfl, by rw [hz.2]; trivial⟩
      · have ho : ObjOk X.prog X.w H s.heap dd (.xd fs) := I.hok dd _ hx
        obtain ⟨mA, hns, hr⟩ := ho
        obtain ⟨od, ho, hl⟩ := lookIn_ns hns
        exact ⟨some od, hget, hz.1, by unfold PySem.W.notCls; rw [hv] <;> rfl, by rw [hz.2]; exact ho⟩
    obtain ⟨od, J⟩ := J
    exact PySem.W.kia_one (PySem.W.kitx_exc hcl C.hg C.hk C.hs C.ha C.hn C.ht C.hm) I.kIn J e (fun z => nomatch z) fun tk => ⟨.bl b, H, I.kept (t' := tk) fun _ _ z => z, rfl, q⟩
section
variable {X : Cx} {ca : Ca} {W : WX} {L : Lk} {pos np q1 q2 apos : Pos} {a : Addr} {cls : Value} {d : Option Addr} {oe : Obj} {pn : List (Addr × Obj)} {i : Nat} {en cn nm : Str} {C0 C : Addr} {b : Bool}
/-- the slot of the suite's exception is read -/
theorem atE_imp {dat : D} {t : TE} (σ : L2.St) (H : Hp) (Q : VK)
    (h : tD X.K ca W L.pu false (ev L (.atE i a dat)) σ H Q)
    (k : ∀ Mu al S, StR X.K ca Mu al S H → σ[i]? = some (some (.ref a)) → (∀ v, Rep X.K Mu al H v dat → Q v H) → t σ H Q) : t σ H Q := by
  obtain ⟨Mu, al, S, r, he, hs, hg⟩ := h
  replace hg : Goal X.K ca L.pu (fun cls dx H' => W cls dx σ H') Mu al S H (ROut X.K false) ((match r[i]? with | some (.v (.clo b)) => if b = a then pure (.v dat) else M.bad | _ => M.bad : M Out) S) Q := hg
  cases q : r[i]? with
  | none => rw [q] at hg; exact hg.elim
  | some sl =>
    rw [q] at hg
    cases sl with
    | un => exact hg.elim
    | own ds => exact hg.elim
    | v dd =>
      cases dd with
      | clo b =>
        obtain ⟨v, h1, h2⟩ := he.vl i _ q
        cases h2
        replace hg : Goal X.K ca L.pu (fun cls dx H' => W cls dx σ H') Mu al S H (ROut X.K false) ((if b = a then pure (.v dat) else M.bad : M Out) S) Q := hg
        split at hg
        · rename_i e
          subst e
          refine k Mu al S hs h1 fun v rv => Goal.ok (show Goal X.K ca L.pu (fun cls dx H' => W cls dx σ H') Mu al S H (ROut X.K false) (.ok (.v dat) S) Q from hg) (Post.refl hs) (OutB.of (by rw [muA_eq hs.mu]; exact rv))
        · exact hg.elim
      | _ => exact hg.elim
/-- isinstance(e, C), C a class of the program -/
theorem snd_isC (hz : Zc cls d oe) (hf : ∃ vs, oe.data = .fields vs) (hcls : cls = .ref C0) (E0 : ExcC X.K C0) (hd : d = none ∨ ∃ dd fs, d = some dd ∧ (dd, fs) ∈ ca.xds) (hk : PySem.W.kitOne X.K (.ref C0) (.ref C) = some b)
    (hN : X.N[i]? = some en) (hv : Vis X.env.scope en) (hgi : Gl X "isinstance") (hmi : X.mg "isinstance" = none) (hg : Gl X cn) (hm : X.mg cn = some (.ref C)) (h1 : (en == ("__debug__" : Str)) = false) (h2 : (en == ("__classdict__" : Str)) = false) (h3 : (cn == ("__debug__" : Str)) = false) :
    SE (X.suite a ((a, oe) :: pn)) ca W L (.Call (.Name "isinstance" np) [.Name en q1, .Name cn q2] [] pos) (.atE i a (.bool b)) := by
  have p1 : PE (X.suite a ((a, oe) :: pn)) (.Name en q1) (tVar i) := pe_var (X := X.suite a ((a, oe) :: pn)) hN hv h1 h2
  have p2 : PE (X.suite a ((a, oe) :: pn)) (.Name cn q2) (tC (.ref C)) := pe_glob (X := X.suite a ((a, oe) :: pn)) hg hm rfl h3
  refine imE (pe_callB (X := X.suite a ((a, oe) :: pn)) (call_isD hz hf) hgi hmi (by decide +kernel) (pa_cons p1 (pa_cons p2 pa_nil))) fun σ H Q h => atE_imp (X := X.suite a ((a, oe) :: pn)) σ H Q h fun Mu al S hs hσ k => ?_
  refine ⟨.ref a, hσ, C0, .ref C, .ref C, b, hcls, E0, hd.imp id ?_, rfl, fun u r => r, hk, k _ (.bool b)⟩
  rintro ⟨dd, fs, e1, e2⟩
  exact ⟨dd, fs, e1, hs.xd _ e2⟩
/-- isinstance(e, T), T built-in -/
theorem snd_isT {T : String} (hz : Zc cls d oe) (hf : ∃ vs, oe.data = .fields vs) (hcls : cls = .ref C0) (E0 : ExcC X.K C0) (hd : d = none ∨ ∃ dd fs, d = some dd ∧ (dd, fs) ∈ ca.xds) (hk : PySem.W.kitOne X.K (.ref C0) (.type T) = some b)
    (hN : X.N[i]? = some en) (hv : Vis X.env.scope en) (hgi : Gl X "isinstance") (hmi : X.mg "isinstance" = none) (hg : Gl X cn) (hm : X.mg cn = none) (hb : bootBuiltins cn = some (.type T)) (hnn : cn ≠ "__name__") (h1 : (en == ("__debug__" : Str)) = false) (h2 : (en == ("__classdict__" : Str)) = false) (h3 : (cn == ("__debug__" : Str)) = false) :
    SE (X.suite a ((a, oe) :: pn)) ca W L (.Call (.Name "isinstance" np) [.Name en q1, .Name cn q2] [] pos) (.atE i a (.bool b)) := by
  have p1 : PE (X.suite a ((a, oe) :: pn)) (.Name en q1) (tVar i) := pe_var (X := X.suite a ((a, oe) :: pn)) hN hv h1 h2
  have p2 : PE (X.suite a ((a, oe) :: pn)) (.Name cn q2) (tC (.ty T)) := pe_bltn (X := X.suite a ((a, oe) :: pn)) hg hm hb rfl hnn h3
  refine imE (pe_callB (X := X.suite a ((a, oe) :: pn)) (call_isD hz hf) hgi hmi (by decide +kernel) (pa_cons p1 (pa_cons p2 pa_nil))) fun σ H Q h => atE_imp (X := X.suite a ((a, oe) :: pn)) σ H Q h fun Mu al S hs hσ k => ?_
  refine ⟨.ref a, hσ, C0, .ty T, .type T, b, hcls, E0, hd.imp id ?_, rfl, fun u r => r, hk, k _ (.bool b)⟩
  rintro ⟨dd, fs, e1, e2⟩
  exact ⟨dd, fs, e1, hs.xd _ e2⟩
/-- e.f -/
theorem snd_xf {dd : Addr} {fs : List (Str × V)} {u : V} {dat : D} (hz : Zc cls d oe) (hf : ∃ vs, oe.data = .fields vs) (hcls : cls = .ref C0) (T : XfC X.K C0) (hno : PySem.W.findIn X.K (.ref C0) nm = some none) (hd : d = some dd) (hx : (dd, fs) ∈ ca.xds) (hl : fs.lookup nm = some u) (hr : (u, dat) ∈ ca.xvs)
    (hN : X.N[i]? = some en) (hv : Vis X.env.scope en) (h1 : (en == ("__debug__" : Str)) = false) (h2 : (en == ("__classdict__" : Str)) = false) (hb : attributeBase (.Name en q1) nm X.env (eval (.Name en q1) X.env) = eval (.Name en q1) X.env) :
    SE (X.suite a ((a, oe) :: pn)) ca W L (.Attribute (.Name en q1) nm pos) (.atE i a dat) := by
  have p1 : PE (X.suite a ((a, oe) :: pn)) (.Name en q1) (tVar i) := pe_var (X := X.suite a ((a, oe) :: pn)) hN hv h1 h2
  refine imE (pe_xf T hno hz hf p1 hb) fun σ H Q h => atE_imp (X := X.suite a ((a, oe) :: pn)) σ H Q h fun Mu al S hs hσ k => ?_
  exact ⟨.ref a, hσ, rfl, hcls, dd, fs, u, hd, hs.xd _ hx, hl, k u (hs.xr _ hr)⟩
end
end Pb
end

section
set_option Elab.async false
set_option linter.all false
set_option maxRecDepth 100000
set_option maxHeartbeats 1000000
/-! The word of what is refused: what the suite of _law_word reads. -/
namespace Pb
open PySem PySem.Spec PyProof.Rows L2
/-- a walk for each x gives a walk whose reading finds the x -/
theorem pss_ex {α : Type} {X : Cx} {ss : List Stmt} {t : α → TS} (h : ∀ x, PSs X ss (t x)) : PSs X ss (fun D σ H => ∃ x, t x D σ H) := ⟨fun pins s σ H D I hw => by
  obtain ⟨x, hx⟩ := hw
  exact (h x).run pins s σ H D I hx⟩
/-- under a condition that the text's place tells -/
theorem pss_if {X : Cx} {ss : List Stmt} {c : Prop} {t : TS} (h : c → PSs X ss t) : PSs X ss (fun D σ H => c ∧ t D σ H) := ⟨fun pins s σ H D I hw => (h hw.1).run pins s σ H D I hw.2⟩
/-- the slots are as many as the names -/
theorem pss_len {X : Cx} {ss : List Stmt} {t : TS} (h : PSs X ss t) : PSs X ss (fun D σ H => σ.length = X.N.length → t D σ H) := ⟨fun pins s σ H D I hw => h.run pins s σ H D I (hw I.len)⟩
/-- never reached -/
theorem pe_never {X : Cx} {e : Expr} : PE X e (fun _ _ _ => False) := ⟨fun _ _ _ _ _ _ h => h.elim⟩
def ecName : Ec → Str
  | .badPlan => "BadPlan" | .badAnswers => "BadAnswers" | .badLot => "BadLot" | .badCount => "BadCount" | .badChances => "BadChances"
  | .noLot => "NoLot" | .badTree => "BadTree" | .badDeed => "BadDeed" | .halted => "Halted" | .badText => "BadText"
abbrev isE (c k : Ec) : Bool := decide (c = k)
/-- nothing is told -/
abbrev badE : CE := .prim .len .nil
def xfC (c : Ec) (a : Nat) (fs : List D) (nm : Str) : CE := match (exNames c).findIdx? (fun z => z == nm) with
  | some i => (match fs[i]? with
    | some d => .atE 2 a d
    | none => badE)
  | none => badE
def wIs (c : Ec) (a : Nat) (k : Ec) : CE := .atE 2 a (.bool (isE c k))
/-- the suite of _law_word, an exception of the class c with the values fs at a -/
def wordB (c : Ec) (a : Nat) (fs : List D) : CB :=
  .cons (.set 3 false (.lst (.cons (wIs c a .badPlan) (.cons (wIs c a .badAnswers) (.cons (wIs c a .badChances) (.cons (wIs c a .badDeed) .nil))))))
  (.cons (.set 3 false (.bin .add (.var 3) (.lst (.cons (wIs c a .halted) (.cons (wIs c a .badTree) (.cons (wIs c a .badText) (.cons (wIs c a .badLot) .nil)))))))
  (.cons (.set 3 false (.bin .add (.var 3) (.lst (.cons (wIs c a .badCount) (.cons (wIs c a .noLot) .nil)))))
  (.cons (.set 4 false (.lst (.cons (.lit (.str ("plan" : Str))) (.cons (.lit (.str ("answers" : Str))) (.cons (.lit (.str ("chances" : Str))) (.cons (.lit (.str ("deed" : Str))) (.cons (.lit (.str ("halted" : Str))) (.cons (.lit (.str ("tree" : Str))) (.cons (.lit (.str ("text" : Str))) (.cons (.lit (.str ("lot" : Str))) (.cons (.lit (.str ("count" : Str))) (.cons (.lit (.str ("nolot" : Str))) .nil))))))))))))
  (.cons (.ite (.or (.cmp .ne (.prim .cntT (.cons (.var 3) .nil)) (.lit (.int 1))) (.not (.atE 2 a (.bool true)))) (.cons (.ret (.tup (.cons (.lit (.str ("other" : Str))) (.cons (.lit .non) .nil)))) .nil) .nil)
  (.cons (.set 5 false (.idx (.var 4) (.prim .ixT (.cons (.var 3) .nil))))
  (.cons (.ite (.cmp .eq (.var 5) (.lit (.str ("halted" : Str)))) (.cons (.ret (.tup (.cons (.var 5) (.cons (.tup (.cons (xfC c a fs "number") (.cons (xfC c a fs "done") .nil))) .nil)))) .nil) .nil)
  (.cons (.ite (.cmp .eq (.var 5) (.lit (.str ("text" : Str)))) (.cons (.ret (.tup (.cons (.var 5) (.cons (xfC c a fs "row") .nil)))) .nil) .nil)
  (.cons (.ite (.cmp .eq (.var 5) (.lit (.str ("tree" : Str)))) (.cons (.ret (.tup (.cons (.var 5) (.cons (xfC c a fs "way") .nil)))) .nil) .nil)
  (.cons (.ret (.ite (.cmp .mem (.var 5) (.slc (.var 4) none (some (.lit (.int 4))))) (.tup (.cons (.var 5) (.cons (xfC c a fs "number") .nil))) (.tup (.cons (.var 5) (.cons (.lit .non) .nil))))) .nil)))))))))
theorem e_atE {L : Lk} {i a : Nat} {d : D} {r : Rho} {S : List SO} (h : r[i]? = some (.v (.clo a))) : ev L (.atE i a d) r S = .ok (.v d) S := by
  show (match r[i]? with | some (.v (.clo b)) => if b = a then pure (.v d) else M.bad | _ => M.bad : M Out) S = _
  rw [h]
  show (if a = a then pure (.v d) else M.bad : M Out) S = _
  rw [if_pos rfl]
  rfl
theorem cat_ok {x y : List D} (h : x.length + y.length ≤ 1000) : binV .add (.list x) (.list y) = some (.own (x ++ y)) := if_pos (sz (by omega))
/-- the part that sorts -/
theorem word_pre {L : Lk} {S : List SO} {a : Nat} {r0 : Rho} {b : Fin 10 → Bool} {k : Nat} {nm : Str} {res : R Fl} {tl : CB} (hr : r0 = [.un, .un, .v (.clo a), .un, .un, .un])
    (h1 : cntV [.list [.bool (b 0), .bool (b 1), .bool (b 2), .bool (b 3), .bool (b 4), .bool (b 5), .bool (b 6), .bool (b 7), .bool (b 8), .bool (b 9)]] = some (.v (.int 1)))
    (h2 : ixtV [.list [.bool (b 0), .bool (b 1), .bool (b 2), .bool (b 3), .bool (b 4), .bool (b 5), .bool (b 6), .bool (b 7), .bool (b 8), .bool (b 9)]] = some (.v (.int k)))
    (h3 : idxV S (.list [.str ("plan" : Str), .str ("answers" : Str), .str ("chances" : Str), .str ("deed" : Str), .str ("halted" : Str), .str ("tree" : Str), .str ("text" : Str), .str ("lot" : Str), .str ("count" : Str), .str ("nolot" : Str)]) (.int k) = some (.str nm))
    (h4 : ∀ x, exB L tl [.un, .un, .v (.clo a), .v x, .v (.list [.str ("plan" : Str), .str ("answers" : Str), .str ("chances" : Str), .str ("deed" : Str), .str ("halted" : Str), .str ("tree" : Str), .str ("text" : Str), .str ("lot" : Str), .str ("count" : Str), .str ("nolot" : Str)]), .v (.str nm)] S = res) :
    exB L (.cons (.set 3 false (.lst (.cons (.atE 2 a (.bool (b 0))) (.cons (.atE 2 a (.bool (b 1))) (.cons (.atE 2 a (.bool (b 2))) (.cons (.atE 2 a (.bool (b 3))) .nil))))))
  (.cons (.set 3 false (.bin .add (.var 3) (.lst (.cons (.atE 2 a (.bool (b 4))) (.cons (.atE 2 a (.bool (b 5))) (.cons (.atE 2 a (.bool (b 6))) (.cons (.atE 2 a (.bool (b 7))) .nil)))))))
  (.cons (.set 3 false (.bin .add (.var 3) (.lst (.cons (.atE 2 a (.bool (b 8))) (.cons (.atE 2 a (.bool (b 9))) .nil)))))
  (.cons (.set 4 false (.lst (.cons (.lit (.str ("plan" : Str))) (.cons (.lit (.str ("answers" : Str))) (.cons (.lit (.str ("chances" : Str))) (.cons (.lit (.str ("deed" : Str))) (.cons (.lit (.str ("halted" : Str))) (.cons (.lit (.str ("tree" : Str))) (.cons (.lit (.str ("text" : Str))) (.cons (.lit (.str ("lot" : Str))) (.cons (.lit (.str ("count" : Str))) (.cons (.lit (.str ("nolot" : Str))) .nil))))))))))))
  (.cons (.ite (.or (.cmp .ne (.prim .cntT (.cons (.var 3) .nil)) (.lit (.int 1))) (.not (.atE 2 a (.bool true)))) (.cons (.ret (.tup (.cons (.lit (.str ("other" : Str))) (.cons (.lit .non) .nil)))) .nil) .nil)
  (.cons (.set 5 false (.idx (.var 4) (.prim .ixT (.cons (.var 3) .nil)))) tl)))))) r0 S = res := by
  subst hr
  have A : ∀ {x : D} {r : Rho}, r[2]? = some (.v (.clo a)) → ev L (.atE 2 a x) r S = .ok (.v x) S := fun h => e_atE h
  refine b_nx (s_set (e_lst rfl (ea_cons (A rfl) (ea_cons (A rfl) (ea_cons (A rfl) (ea_cons (A rfl) ea_nil)))) (sz (by simp)))) (b_nx (s_set (e_bin (e_var rfl) (e_lst rfl (ea_cons (A rfl) (ea_cons (A rfl) (ea_cons (A rfl) (ea_cons (A rfl) ea_nil)))) (sz (by simp))) (cat_ok (by simp)))) (b_nx (s_set (e_bin (e_var rfl) (e_lst rfl (ea_cons (A rfl) (ea_cons (A rfl) ea_nil)) (sz (by simp))) (cat_ok (by simp)))) ?_))
  refine b_nx (s_set (e_lst rfl (ea_cons e_lit (ea_cons e_lit (ea_cons e_lit (ea_cons e_lit (ea_cons e_lit (ea_cons e_lit (ea_cons e_lit (ea_cons e_lit (ea_cons e_lit (ea_cons e_lit ea_nil)))))))))) (sz (by simp)))) (b_nx (s_ite_f (e_or_f (e_cmp (e_prim (ea1 (e_var rfl)) h1) e_lit rfl) (e_not (u := true) (A rfl))) b_nil) (b_nx (s_set (e_idx (e_var rfl) (e_prim (ea1 (e_var rfl)) h2) h3)) (h4 _)))
theorem xfC_at {c : Ec} {a : Nat} {fs : List D} {nm : Str} {i : Nat} {d : D} (h : (exNames c).findIdx? (fun z => z == nm) = some i) (h2 : fs[i]? = some d) : xfC c a fs nm = .atE 2 a d := by
  unfold xfC
  rw [h]
  dsimp only
  rw [h2]
/-- what the suite tells -/
theorem wordB_ok {L : Lk} {S : List SO} {c : Ec} {a : Nat} {fs : List D} (h : fs.length = exArity c) : exB L (wordB c a fs) [.un, .un, .v (.clo a), .un, .un, .un] S = .ok (.rt (.v (wordV ⟨c, fs⟩))) S := by
  have one : fs.length = 1 → ∃ d, fs = [d] := fun h => by
    cases fs with
    | nil => cases h
    | cons d r => cases r with
      | nil => exact ⟨d, rfl⟩
      | cons _ _ => cases h
  have two : fs.length = 2 → ∃ d e, fs = [d, e] := fun h => by
    cases fs with
    | nil => cases h
    | cons d r => cases r with
      | nil => cases h
      | cons e r => cases r with
        | nil => exact ⟨d, e, rfl⟩
        | cons _ _ => cases h
  have zero : fs.length = 0 → fs = [] := fun h => List.length_eq_zero_iff.mp h
  have A : ∀ {x : D} {r : Rho}, r[2]? = some (.v (.clo a)) → ev L (.atE 2 a x) r S = .ok (.v x) S := fun h => e_atE h
  refine word_pre (b := fun i => isE c ([Ec.badPlan, .badAnswers, .badChances, .badDeed, .halted, .badTree, .badText, .badLot, .badCount, .noLot].getD i.1 .badPlan)) (k := [Ec.badPlan, .badAnswers, .badChances, .badDeed, .halted, .badTree, .badText, .badLot, .badCount, .noLot].idxOf c) (nm := wname c) rfl (by cases c <;> kernel_rfl) (by cases c <;> kernel_rfl) (by cases c <;> kernel_rfl) fun x => ?_
  have no : ∀ {nm nm' : Str} {r : Rho}, r[5]? = some (.v (.str nm)) → D.eqv (.str nm) (.str nm') = false → cmpV .eq (.str nm) (.str nm') = some false → exS L (.ite (.cmp .eq (.var 5) (.lit (.str nm'))) (.cons (.ret (.tup (.cons (.var 5) (.cons badE .nil)))) .nil) .nil) r S = .ok (.nx r) S := fun h _ h2 => s_ite_f (e_cmp (e_var h) e_lit h2) b_nil
  cases c
  case halted =>
    obtain ⟨d, e, rfl⟩ := two h
    rw [xfC_at (c := .halted) (fs := [d, e]) (nm := "number") (i := 0) (d := d) (by kernel_rfl) rfl, xfC_at (c := .halted) (fs := [d, e]) (nm := "done") (i := 1) (d := e) (by kernel_rfl) rfl]
    exact b_rt (s_ite_t (e_cmp (e_var rfl) e_lit (by kernel_rfl)) (b_rt (s_ret (e_tup rfl (ea2 (e_var rfl) (e_tup rfl (ea2 (A rfl) (A rfl)) (sz (by simp)))) (sz (by simp))))))
  case badText =>
    obtain ⟨d, rfl⟩ := one h
    rw [xfC_at (c := .badText) (fs := [d]) (nm := "row") (i := 0) (d := d) (by kernel_rfl) rfl]
    exact b_nx (s_ite_f (e_cmp (e_var rfl) e_lit (by kernel_rfl)) b_nil) (b_rt (s_ite_t (e_cmp (e_var rfl) e_lit (by kernel_rfl)) (b_rt (s_ret (e_tup rfl (ea2 (e_var rfl) (A rfl)) (sz (by simp)))))))
  case badTree =>
    obtain ⟨d, rfl⟩ := one h
    rw [xfC_at (c := .badTree) (fs := [d]) (nm := "way") (i := 0) (d := d) (by kernel_rfl) rfl]
    exact b_nx (s_ite_f (e_cmp (e_var rfl) e_lit (by kernel_rfl)) b_nil) (b_nx (s_ite_f (e_cmp (e_var rfl) e_lit (by kernel_rfl)) b_nil) (b_rt (s_ite_t (e_cmp (e_var rfl) e_lit (by kernel_rfl)) (b_rt (s_ret (e_tup rfl (ea2 (e_var rfl) (A rfl)) (sz (by simp))))))))
  case badPlan =>
    obtain ⟨d, rfl⟩ := one h
    rw [xfC_at (c := .badPlan) (fs := [d]) (nm := "number") (i := 0) (d := d) (by kernel_rfl) rfl]
    exact b_nx (s_ite_f (e_cmp (e_var rfl) e_lit (by kernel_rfl)) b_nil) (b_nx (s_ite_f (e_cmp (e_var rfl) e_lit (by kernel_rfl)) b_nil) (b_nx (s_ite_f (e_cmp (e_var rfl) e_lit (by kernel_rfl)) b_nil) (b_rt (s_ret (e_ite_t (e_cmp (e_var rfl) (e_slc (e_var rfl) eo_none (eo_some e_lit) rfl) (by kernel_rfl)) (e_tup rfl (ea2 (e_var rfl) (A rfl)) (sz (by simp))))))))
  case badAnswers =>
    obtain ⟨d, rfl⟩ := one h
    rw [xfC_at (c := .badAnswers) (fs := [d]) (nm := "number") (i := 0) (d := d) (by kernel_rfl) rfl]
    exact b_nx (s_ite_f (e_cmp (e_var rfl) e_lit (by kernel_rfl)) b_nil) (b_nx (s_ite_f (e_cmp (e_var rfl) e_lit (by kernel_rfl)) b_nil) (b_nx (s_ite_f (e_cmp (e_var rfl) e_lit (by kernel_rfl)) b_nil) (b_rt (s_ret (e_ite_t (e_cmp (e_var rfl) (e_slc (e_var rfl) eo_none (eo_some e_lit) rfl) (by kernel_rfl)) (e_tup rfl (ea2 (e_var rfl) (A rfl)) (sz (by simp))))))))
  case badChances =>
    obtain ⟨d, rfl⟩ := one h
    rw [xfC_at (c := .badChances) (fs := [d]) (nm := "number") (i := 0) (d := d) (by kernel_rfl) rfl]
    exact b_nx (s_ite_f (e_cmp (e_var rfl) e_lit (by kernel_rfl)) b_nil) (b_nx (s_ite_f (e_cmp (e_var rfl) e_lit (by kernel_rfl)) b_nil) (b_nx (s_ite_f (e_cmp (e_var rfl) e_lit (by kernel_rfl)) b_nil) (b_rt (s_ret (e_ite_t (e_cmp (e_var rfl) (e_slc (e_var rfl) eo_none (eo_some e_lit) rfl) (by kernel_rfl)) (e_tup rfl (ea2 (e_var rfl) (A rfl)) (sz (by simp))))))))
  case badDeed =>
    obtain ⟨d, rfl⟩ := one h
    rw [xfC_at (c := .badDeed) (fs := [d]) (nm := "number") (i := 0) (d := d) (by kernel_rfl) rfl]
    exact b_nx (s_ite_f (e_cmp (e_var rfl) e_lit (by kernel_rfl)) b_nil) (b_nx (s_ite_f (e_cmp (e_var rfl) e_lit (by kernel_rfl)) b_nil) (b_nx (s_ite_f (e_cmp (e_var rfl) e_lit (by kernel_rfl)) b_nil) (b_rt (s_ret (e_ite_t (e_cmp (e_var rfl) (e_slc (e_var rfl) eo_none (eo_some e_lit) rfl) (by kernel_rfl)) (e_tup rfl (ea2 (e_var rfl) (A rfl)) (sz (by simp))))))))
  all_goals
    cases zero h
    exact b_nx (s_ite_f (e_cmp (e_var rfl) e_lit (by kernel_rfl)) b_nil) (b_nx (s_ite_f (e_cmp (e_var rfl) e_lit (by kernel_rfl)) b_nil) (b_nx (s_ite_f (e_cmp (e_var rfl) e_lit (by kernel_rfl)) b_nil) (b_rt (s_ret (e_ite_f (e_cmp (e_var rfl) (e_slc (e_var rfl) eo_none (eo_some e_lit) rfl) (by kernel_rfl)) (e_tup rfl (ea2 (e_var rfl) e_lit) (sz (by simp))))))))
end Pb
end

section
set_option Elab.async false
set_option linter.all false
set_option maxRecDepth 100000
set_option maxHeartbeats 1000000
/-! The suite of _law_word: its tests and attributes; what the def gives. -/
namespace Pb
open PySem PySem.Spec PyProof.Rows L2
/-- what the classes of exceptions must be -/
structure WF (K : PySem.W.Frag) (cls : Ec → Addr) : Prop where
  ex : ∀ c, ExcC K (cls c)
  xf : ∀ c, XfC K (cls c)
  kt : ∀ c k, PySem.W.kitOne K (.ref (cls c)) (.ref (cls k)) = some (isE c k)
  kv : ∀ c, PySem.W.kitOne K (.ref (cls c)) (.type "ValueError") = some true
  no : ∀ c nm, nm ∈ exNames c → PySem.W.findIn K (.ref (cls c)) nm = some none
/-- a caught exception of the class c with the values fs -/
structure SuX (cls : Ec → Addr) (ca : Ca) (c : Ec) (fs : List D) (cv : Value) (d : Option Addr) (oe : Obj) : Prop where
  hz : Zc cv d oe
  hf : ∃ vs, oe.data = .fields vs
  hc : cv = .ref (cls c)
  hd : (exNames c = [] ∧ d = none) ∨ ∃ dd vfs, d = some dd ∧ (dd, vfs) ∈ ca.xds ∧ ∀ (i : Nat) (nm : Str) (e : D), (exNames c)[i]? = some nm → fs[i]? = some e → ∃ v, vfs.lookup nm = some v ∧ (v, e) ∈ ca.xvs
theorem SuX.hd' {cls : Ec → Addr} {ca : Ca} {c : Ec} {fs : List D} {cv : Value} {d : Option Addr} {oe : Obj} (s : SuX cls ca c fs cv d oe) : d = none ∨ ∃ dd vfs, d = some dd ∧ (dd, vfs) ∈ ca.xds := by
  rcases s.hd with ⟨_, h⟩ | ⟨dd, vfs, h1, h2, _⟩
  · exact .inl h
  · exact .inr ⟨dd, vfs, h1, h2⟩
section
variable {X : Cx} {ca : Ca} {W : WX} {L : Lk} {pos np q1 q2 apos : Pos} {a : Addr} {cv : Value} {d : Option Addr} {oe : Obj} {pn : List (Addr × Obj)} {en nm : Str} {cls : Ec → Addr} {c k : Ec} {fs : List D}
theorem snd_never {Y : Cx} {e : Expr} : SE Y ca W L e badE := imE pe_never fun σ H Q h => by
  obtain ⟨Mu, al, S, r, he, hs, hg⟩ := h
  exact hg
theorem w_isC {cn : Str} (w : WF X.K cls) (s : SuX cls ca c fs cv d oe) (hm : X.mg cn = some (.ref (cls k))) (hmi : X.mg "isinstance" = none) (hgi : glB X.env.scope "isinstance" = true) (hg : glB X.env.scope cn = true) (hn : nmB X.N X.env.scope 2 en = true) :
    SE (X.suite a ((a, oe) :: pn)) ca W L (.Call (.Name "isinstance" np) [.Name en q1, .Name cn q2] [] pos) (wIs c a k) :=
  snd_isC s.hz s.hf s.hc (w.ex c) s.hd' (w.kt c k) (nmB_ok hn).1 (nmB_ok hn).2.1 (glB_ok hgi).1 hmi (glB_ok hg).1 hm (nmB_ok hn).2.2.1 (nmB_ok hn).2.2.2 (glB_ok hg).2.1
theorem boot_ValueError : bootBuiltins "ValueError" = some (.type "ValueError") := by decide +kernel
theorem w_isV (w : WF X.K cls) (s : SuX cls ca c fs cv d oe) (hm : X.mg "ValueError" = none) (hmi : X.mg "isinstance" = none) (hgi : glB X.env.scope "isinstance" = true) (hg : glB X.env.scope "ValueError" = true) (hn : nmB X.N X.env.scope 2 en = true) :
    SE (X.suite a ((a, oe) :: pn)) ca W L (.Call (.Name "isinstance" np) [.Name en q1, .Name "ValueError" q2] [] pos) (.atE 2 a (.bool true)) :=
  snd_isT s.hz s.hf s.hc (w.ex c) s.hd' (w.kv c) (nmB_ok hn).1 (nmB_ok hn).2.1 (glB_ok hgi).1 hmi (glB_ok hg).1 hm boot_ValueError (glB_ok hg).2.2 (nmB_ok hn).2.2.1 (nmB_ok hn).2.2.2 (glB_ok hg).2.1
theorem w_xf (w : WF X.K cls) (s : SuX cls ca c fs cv d oe) (hn : nmB X.N X.env.scope 2 en = true) (hb : attributeBase (.Name en q1) nm X.env (eval (.Name en q1) X.env) = eval (.Name en q1) X.env) :
    SE (X.suite a ((a, oe) :: pn)) ca W L (.Attribute (.Name en q1) nm pos) (xfC c a fs nm) := by
  unfold xfC
  cases h1 : (exNames c).findIdx? (fun z => z == nm) with
  | none => exact snd_never
  | some i =>
    dsimp only
    cases h2 : fs[i]? with
    | none => exact snd_never
    | some e =>
      dsimp only
      obtain ⟨hi, hq, _⟩ := List.findIdx?_eq_some_iff_getElem.mp h1
      have hnm : (exNames c)[i]? = some nm := by
        rw [List.getElem?_eq_getElem hi, beq_iff_eq.mp hq]
      have hmem : nm ∈ exNames c := List.mem_of_getElem? hnm
      rcases s.hd with ⟨h, _⟩ | ⟨dd, vfs, h3, h4, h5⟩
      · rw [h] at hmem
        cases hmem
      · obtain ⟨v, h6, h7⟩ := h5 i nm e hnm h2
        exact snd_xf s.hz s.hf s.hc (w.xf c) (w.no c nm hmem) h3 h4 h6 h7 (nmB_ok hn).1 (nmB_ok hn).2.1 (nmB_ok hn).2.2.1 (nmB_ok hn).2.2.2 hb
end
end Pb
end

section
set_option Elab.async false
set_option linter.all false
set_option maxRecDepth 100000
set_option maxHeartbeats 1000000
/-! _law_word(lambda: e). -/
namespace Pb
open PySem PySem.Spec PyProof.Rows L2
/-- what the lambda's value must bear: the list found stands at p -/
def QVw (p : Addr) (Q : VK) : VK := fun v H' => H' p = some (.lst []) ∧ ∀ t, upd H' p (.lst [v]) t = none → Q (.ref t) (upd (upd H' p (.lst [v])) t (.tup [.str ("" : Str), v]))
/-- what its exception must bear -/
def EXw (K : PySem.W.Frag) (ca : Ca) (Q : VK) : XK := fun cv dx H' => ∃ (x : Exn) (M0 : Addr → Prop) (al : List Addr) (S : List SO), StR K ca M0 al S H' ∧ ExR K ca M0 al H' x cv dx ∧ x.fs.length = exArity x.c ∧
  ∀ v H'', SameN H' H'' → StR K ca M0 al S H'' → Rep K M0 al H'' v (wordV x) → Q v H''
def TTw (K : PySem.W.Frag) (ca : Ca) : (XK → Hp → VK → Prop) → Hp → VK → Prop := fun tl H Q => ∀ p, H p = none → ∀ (Ech : XK) (k : VK), (∀ v H', QVw p Q v H' → k v H') → (∀ cv dx H', EXw K ca Q cv dx H' → Ech cv dx H') → tl Ech (upd H p (.lst [])) k
/-- nothing is called -/
abbrev Lw : Lk := ⟨true, fun _ _ => M.bad, fun _ _ => M.bad, fun _ _ _ => False⟩
structure SuY (cls : Ec → Addr) (ca : Ca) (c : Ec) (fs : List Pb.D) (cv : Value) (d : Option Addr) : Prop where
  hc : cv = .ref (cls c)
  hd : (exNames c = [] ∧ d = none) ∨ ∃ dd vfs, d = some dd ∧ (dd, vfs) ∈ ca.xds ∧ ∀ (i : Nat) (nm : Str) (e : D), (exNames c)[i]? = some nm → fs[i]? = some e → ∃ v, vfs.lookup nm = some v ∧ (v, e) ∈ ca.xvs
theorem vals_all {K : PySem.W.Frag} {Mu : Addr → Prop} {al : List Addr} {H : Hp} {l : List (Str × V)} : ∀ {ns : List Str} {fs : List D}, (∀ (i : Nat) (nm : Str) (e : D), ns[i]? = some nm → fs[i]? = some e → ∃ v, l.lookup nm = some v ∧ Rep K Mu al H v e) →
    ∃ xvs : List (V × D), (∀ p ∈ xvs, Rep K Mu al H p.1 p.2) ∧ ∀ (i : Nat) (nm : Str) (e : D), ns[i]? = some nm → fs[i]? = some e → ∃ v, l.lookup nm = some v ∧ (v, e) ∈ xvs
  | [], fs, _ => ⟨[], by simp, fun i nm e h => by simp at h⟩
  | n :: ns, [], _ => ⟨[], by simp, fun i nm e _ h => by simp at h⟩
  | n :: ns, f :: fs, h => by
    obtain ⟨v, h1, h2⟩ := h 0 n f rfl rfl
    obtain ⟨xvs, h3, h4⟩ := vals_all (ns := ns) (fs := fs) fun i nm e a b => h (i + 1) nm e (by simpa using a) (by simpa using b)
    refine ⟨(v, f) :: xvs, fun p hp => ?_, fun i nm e a b => ?_⟩
    · rcases List.mem_cons.mp hp with rfl | hp
      · exact h2
      · exact h3 p hp
    · cases i with
      | zero =>
        simp at a b
        subst a b
        exact ⟨v, h1, by simp⟩
      | succ i =>
        obtain ⟨u, g1, g2⟩ := h4 i nm e (by simpa using a) (by simpa using b)
        exact ⟨u, g1, by simp [g2]⟩
/-- a caught exception, told to the suite -/
theorem suY_of {K : PySem.W.Frag} {ca : Ca} {M0 : Addr → Prop} {al : List Addr} {S : List SO} {H : Hp} {x : Exn} {cv : Value} {dx : Option Addr} (hs : StR K ca M0 al S H) (e : ExR K ca M0 al H x cv dx) :
    ∃ ca' : Ca, ca'.cls = ca.cls ∧ ca'.tabs = ca.tabs ∧ SuY ca.cls ca' x.c x.fs cv dx ∧ StR K ca' M0 al S H := by
  obtain ⟨h1, h2⟩ := e
  rcases h2 with ⟨h2, h3⟩ | ⟨d, fs, h2, h3, h4⟩
  · exact ⟨{ ca with xds := [], xvs := [] }, rfl, rfl, ⟨h1, .inl ⟨h2, h3⟩⟩, ⟨hs.len, hs.nd, hs.mu, hs.tr, hs.ob, hs.tb, by simp, by simp⟩⟩
  · obtain ⟨xvs, h5, h6⟩ := vals_all h4
    refine ⟨{ ca with xds := [(d, fs)], xvs := xvs }, rfl, rfl, ⟨h1, .inr ⟨d, fs, h2, by simp, h6⟩⟩, ⟨hs.len, hs.nd, hs.mu, hs.tr, hs.ob, hs.tb, fun p hp => ?_, h5⟩⟩
    rw [List.mem_singleton.mp hp]
    exact h3
theorem muO_none {M0 : Addr → Prop} {al : List Addr} (h : ∀ a, a ∈ al → M0 a) : MuO M0 al (fun _ => False) = M0 := by
  funext a
  exact propext ⟨fun z => z.elim id fun z => z.elim (h a) False.elim, .inl⟩
/-- the def that calls what it got: f, of which l is known -/
def GivesL (X : Cx) (Ng : List Str) (x : Str) (sg : Scope) (g : Addr) (cdg : Value) (bg : List Stmt) (a : Str) (TT : (XK → Hp → VK → Prop) → Hp → VK → Prop) : Prop :=
  ∀ (f : Addr) (l : List (Addr × HO)) (s : Shared) (H : Hp) (Q : VK) (tl : XK → Hp → VK → Prop),
    (∀ (W : WX) (pn : List (Addr × Obj)) (xe : Value → Shared → Prop) (E : XK) (p1 p2 : Pos), Takes ((cxOf C8.CX0 X.prog X.w X.K X.mg X.base Ng x sg g cdg X.A X.stack s H C8.E0).tr pn xe) W → (∀ cls d σ' H', E cls d H' → W cls d σ' H') →
      PE ((cxOf C8.CX0 X.prog X.w X.K X.mg X.base Ng x sg g cdg X.A X.stack s H C8.E0).tr pn xe) (.Call (.Name a p1) [] [] p2) (fun σZ HZ Q => σZ[0]? = some (some (.ref f)) ∧ (∀ p ∈ l, HZ p.1 = some p.2) ∧ tl E HZ Q)) →
    (∀ p ∈ l, H p.1 = some p.2) → TT tl H Q →
    ∃ t, PSs (cxOf C8.CX0 X.prog X.w X.K X.mg X.base Ng x sg g cdg X.A X.stack s H C8.E0).nox bg t ∧ t { nx := fun _ H' => Q .non H', rt := Q } (L2.start Ng [.ref f]) H
theorem GivesL.to {X : Cx} {Ng : List Str} {x : Str} {sg : Scope} {g : Addr} {cdg : Value} {bg : List Stmt} {a q : Str} {TT : (XK → Hp → VK → Prop) → Hp → VK → Prop} (h : GivesL X Ng x sg g cdg bg a TT) : LamX.GivesTo X Ng x sg g cdg bg a q TT := by
  intro f c' s H Q tl act hc ht
  refine h f [(c', LamX.CodeO c' q)] s H Q tl (fun W pn xe E p1 p2 tk hW => ⟨fun pins s' σ H' Q' I hr => (act W pn xe E p1 p2 tk hW).run pins s' σ H' Q' I ⟨hr.1, hr.2.1 _ List.mem_cons_self, hr.2.2⟩⟩) (fun p hp => ?_) ht
  rw [List.mem_singleton.mp hp]
  exact hc
/-- what _law_word does with a lambda -/
theorem word_gives {X : Cx} {ca : Ca} {sg : Scope} {g B : Addr} {cdg : Value} {x a fnd en srt nms nme : Str} {b0 : Stmt} {suite : List Stmt} {j j2 k17 : Nat} {p1 p2 p3 p4 p5 p6 p7 p8 p9 p10 p11 p12 p13 p14 p15 p16 p17 p18 : Pos}
    (hme : X.mg "ProbeError" = some (.ref B)) (hex : ∀ c, PySem.W.exmOne X.K (.ref (ca.cls c)) (.ref B) = some true)
    (hN : [a, fnd, en, srt, nms, nme].Nodup) (h0 : nmB [a, fnd, en, srt, nms, nme] sg 0 a = true) (h1 : nmB [a, fnd, en, srt, nms, nme] sg 1 fnd = true) (h1' : loL [a, fnd, en, srt, nms, nme] sg 1 fnd = true) (h2 : loL [a, fnd, en, srt, nms, nme] sg 2 en = true) (hg : glB sg "ProbeError" = true)
    (hl : (p5.endLine == p8.line) = true)
    (HS : ∀ (s : Shared) (H : Hp) (ca' : Ca) (M0 : Addr → Prop) (c : Ec) (fs : List Pb.D) (ad : Addr) (oe : Obj) (cv : Value) (d : Option Addr) (pn : List (Addr × Obj)), SuX ca.cls ca' c fs cv d oe →
      SB ((cxOf C8.CX0 X.prog X.w X.K X.mg X.base [a, fnd, en, srt, nms, nme] x sg g cdg X.A X.stack s H C8.E0).suite ad ((ad, oe) :: pn)) ca' (fun _ _ _ => False) M0 Lw (b0 :: suite) (wordB c ad fs))
    :
    GivesL X [a, fnd, en, srt, nms, nme] x sg g cdg [.Assign [.Name fnd p1] (.List [] p2) p3, .Try [.Expr (.Call (.Attribute (.Name fnd p4) "append" p5) [.Call (.Name a p6) [] [] p7] [] p8) p9] [.ExceptHandler (some (.Name "ProbeError" p10)) (some en) (b0 :: suite) p11] [] [] p12,
      .Return (some (.Tuple [.Constant (.str ("" : Str)) j p13, .Subscript (.Name fnd p14) (.Constant (.int 0) j2 p15) p16] k17 p17)) p18] a (TTw X.K ca) := by
  intro f l s H Q tl act hc h
  have HS := HS s H
  generalize eZ : (cxOf C8.CX0 X.prog X.w X.K X.mg X.base [a, fnd, en, srt, nms, nme] x sg g cdg X.A X.stack s H C8.E0) = Z at act HS ⊢
  have zK : Z.K = X.K := by rw [← eZ]; rfl
  have zM : Z.mg = X.mg := by rw [← eZ]; rfl
  have zN : Z.N = [a, fnd, en, srt, nms, nme] := by rw [← eZ]; rfl
  have zS : Z.env.scope = sg := by rw [← eZ]; rfl
  have zs : Z.stack = Z.env :: Z.outer := by rw [← eZ]; rfl
  have zf : Z.env.frame = some Z.env.locals := by rw [← eZ]; rfl
  have hNd : Z.N.Nodup := by rw [zN]; exact hN
  have v0 : Z.N[0]? = some a ∧ Vis Z.env.scope a ∧ (a == ("__debug__" : Str)) = false ∧ (a == ("__classdict__" : Str)) = false := by
    rw [zN, zS]
    exact nmB_ok h0
  have v1 : Z.N[1]? = some fnd ∧ Vis Z.env.scope fnd ∧ (fnd == ("__debug__" : Str)) = false ∧ (fnd == ("__classdict__" : Str)) = false := by
    rw [zN, zS]
    exact nmB_ok h1
  have l1 : Z.N[1]? = some fnd ∧ Z.env.scope.names.lookup fnd = some .local := by
    rw [zN, zS]
    exact loL_ok h1'
  have l2 : Z.N[2]? = some en ∧ Z.env.scope.names.lookup en = some .local := by
    rw [zN, zS]
    exact loL_ok h2
  have hgl : Gl Z.nox ("ProbeError" : Str) := by
    show Z.env.scope.names.lookup _ = _
    rw [zS]
    exact (glB_ok hg).1
  have hme' : Z.nox.mg ("ProbeError" : Str) = some (.ref B) := by
    show Z.mg _ = _
    rw [zM]
    exact hme
  have Suite : ∀ (ad : Addr) (oe : Obj) (cv : Value) (d : Option Addr) (pn : List (Addr × Obj)), Zc cv d oe → (∃ vs, oe.data = .fields vs) → PSs (Z.nox.suite ad ((ad, oe) :: pn)) (b0 :: suite)
      (fun En σ H => σ.length = 6 → ∃ z : Ca × (Addr → Prop) × Ec × List Pb.D, SuY ca.cls z.1 z.2.2.1 z.2.2.2 cv d ∧ tS X.K z.1 (fun _ _ _ => False) true z.2.1 (exB Lw (wordB z.2.2.1 ad z.2.2.2)) En σ H) := fun ad oe cv d pn hz hf => by
    have key := pss_len (pss_ex fun z : Ca × (Addr → Prop) × Ec × List Pb.D => pss_if (c := SuY ca.cls z.1 z.2.2.1 z.2.2.2 cv d) fun y => HS z.1 z.2.1 z.2.2.1 z.2.2.2 ad oe cv d pn ⟨hz, hf, y.hc, y.hd⟩)
    refine imB key fun En σ H h hl => ?_
    have hl : σ.length = Z.N.length := hl
    obtain ⟨z, h1, h2⟩ := h (by rw [hl, zN]; rfl)
    exact ⟨z, h1, by rw [← zK] at h2; exact h2⟩
  refine ⟨_, pss_cons (ps_set (i := 1) hNd l1.1 (.inl l1.2) (pe_lst pa_nil) rfl (.inr l1.2)) (pss_cons (ps_try_as (X := Z.nox) (i := 2) (c := .ref B)
      (tb := fun W En σ H => ∃ (Ech : XK) (p : Addr), (∀ cls d σ' H', Ech cls d H' → W cls d σ' H') ∧ σ[0]? = some (some (.ref f)) ∧ σ[1]? = some (some (.ref p)) ∧ (∀ z ∈ l, H z.1 = some z.2) ∧ H p = some (.lst []) ∧ tl Ech H (fun v H' => rAppend (.ref p) [v] H' fun _ H2 => En.nx σ H2))
      zs zf hNd l2.1 l2.2 ⟨hgl, by decide, .inl hme'⟩ takes0 (fun W pn xe tk _ => ?body) Suite)
    (pss_one (ps_ret (pe_tup (pa_cons pe_str (pa_cons (pe_ix ix_list (pe_var (i := 1) v1.1 v1.2.1 v1.2.2.1 v1.2.2.2) pe_int (fun _ _ => rfl)) pa_nil)))))), ?_⟩
  case body =>
    refine ⟨fun pins s' σ H' En I h' => ?_⟩
    obtain ⟨Ech, p, hW, g1, g2, g3, g4, g5⟩ := h'
    have hp := act W pn xe Ech p6 p7 tk hW
    have hq := pss_one (ps_expr (pos := p9) (pe_bm (cpos := p8) (apos := p5) PySem.F.plainAttrs_list PySem.F.slot_list_append PySem.F.type_list_append mt_append (pe_var (X := Z.tr pn xe) (pos := p4) (i := 1) v1.1 v1.2.1 v1.2.2.1 v1.2.2.2) (pa_cons hp pa_nil) rfl rfl hl))
    exact hq.run pins s' σ H' En I ⟨.ref p, g2, .inl ⟨rfl, _, SqL.of g4⟩, g1, g3, g5⟩
  have hst : L2.start [a, fnd, en, srt, nms, nme] [V.ref f] = [some (.ref f), none, none, none, none, none] := rfl
  rw [hst]
  refine ⟨by simp, fun p hp => ?_⟩
  have hpc : ∀ z ∈ l, upd H p (.lst []) z.1 = some z.2 := fun z hz => by
    rw [upd_ne (ne_of_none (hc z hz) hp)]
    exact hc z hz
  refine ⟨fun cv d H' => ∀ σ', _, p, fun cls d σ' H' e => e σ', rfl, rfl, hpc, upd_same, h p hp _ _ (fun v H' hv => ?_) fun cv dx H' hx => ?_⟩
  · obtain ⟨e1, e2⟩ := hv
    refine ⟨p, [], v, rfl, rfl, e1, by rw [sizeLine_eq]; decide, ?_⟩
    exact ⟨_, rfl, p, [v], 0, v, rfl, rfl, SqL.of upd_same, rfl, by rw [sizeLine_eq]; simp, fun t ht => e2 t ht⟩
  · intro σ'
    obtain ⟨x', M0, al, S, hs, he, hln, hq⟩ := hx
    refine ⟨true, ?_, fun _ ad had hlen => ?_, fun z => by cases z⟩
    · show PySem.W.exmOne Z.K cv (.ref B) = some true
      rw [zK, he.1]
      exact hex _
    · obtain ⟨ca', e1, e2, y, hs'⟩ := suY_of hs he
      refine ⟨⟨ca', M0, x'.c, x'.fs⟩, y, fun _ => False, al, S, [.un, .un, .v (.clo ad), .un, .un, .un], ⟨⟨hlen.symm, fun i d hi => ?_, fun i ds hi => ?_, fun i k ds es b _ hi => ?_⟩, fun i ds b hi => ?_, fun b z => z.elim⟩, by rw [muO_none hs'.mu]; exact hs', ?_⟩
      · match i, hi with
        | 2, hi =>
          cases hi
          rw [List.length_set] at hlen
          exact ⟨.ref ad, by rw [List.getElem?_set, if_pos rfl, if_pos (by omega)], .clo⟩
        | 0, hi => cases hi
        | 1, hi => cases hi
        | 3, hi => cases hi
        | 4, hi => cases hi
        | 5, hi => cases hi
        | n + 6, hi => cases hi
      · match i, hi with
        | 0, hi => cases hi
        | 1, hi => cases hi
        | 2, hi => cases hi
        | 3, hi => cases hi
        | 4, hi => cases hi
        | 5, hi => cases hi
        | n + 6, hi => cases hi
      · match i, hi with
        | 0, hi => cases hi
        | 1, hi => cases hi
        | 2, hi => cases hi
        | 3, hi => cases hi
        | 4, hi => cases hi
        | 5, hi => cases hi
        | n + 6, hi => cases hi
      · match i, hi with
        | 0, hi => cases hi
        | 1, hi => cases hi
        | 2, hi => cases hi
        | 3, hi => cases hi
        | 4, hi => cases hi
        | 5, hi => cases hi
        | n + 6, hi => cases hi
      · show GoalS X.K ca' true (fun _ _ _ => False) M0 (fun _ => False) al S H' (exB Lw (wordB x'.c ad x'.fs) [.un, .un, .v (.clo ad), .un, .un, .un] S) _ _
        rw [wordB_ok hln]
        intro v H'' O' al' st out
        obtain ⟨a1, a2, a3⟩ := st.pur rfl
        subst a1
        have same : SameN H' H'' := fun b o e nt => a3 b o (fun z => z) e nt
        have tb := st.st.tb
        rw [e2] at tb
        refine hq v H'' same (hs.sameN same tb) ?_
        have out : Rep X.K (MuA M0 al') al' H'' v (wordV x') := out
        rw [muA_eq hs.mu] at out
        exact out
end Pb
end

section
set_option Elab.async false
set_option linter.all false
set_option maxRecDepth 100000
set_option maxHeartbeats 1000000
/-! _law_word(lambda: e): the rule. -/
namespace Pb
open PySem PySem.Spec PyProof.Rows L2
section
variable {X : Cx} {ca : Ca} {W : WX} {L : Lk}
theorem envS_nil {K : PySem.W.Frag} {M0 : Addr → Prop} {al : List Addr} {H : Hp} {O : Addr → Prop} (h : ∀ a, O a → ¬ M0 a) : EnvS K M0 O al [] [] H :=
  ⟨⟨rfl, fun i d h => by simp at h, fun i d h => by simp at h, fun i j ds es a _ h => by simp at h⟩, fun i ds a h => by simp at h, h⟩
/-- the run of a lambda's word: what it asks of the lambda's run -/
theorem word_imp {c : CE} (hb : c.isBor = false) {σ : L2.St} {H : Hp} {Q : VK} (h : tD X.K ca W L.pu false (ev L (.word c)) σ H Q) :
    LamX.tLam ca.tabs (TTw X.K ca) (fun E => tD X.K ca (WO E) L.pu c.isBor (ev L c)) σ H Q := by
  obtain ⟨Mu, al, S, r, he0, hs0, hg0⟩ := h
  refine ⟨hs0.tb, fun H1 eN T1 p hp Ech k hk hE => ?_⟩
  have p0 : Post X.K ca L.pu Mu al S al S H H1 := Post.sameN hs0 eN T1
  have mu := muA_eq hs0.mu
  have hg := Goal.later mono_out p0 hg0
  rw [mu] at hg
  have he := he0.post hs0 p0
  rw [mu] at he
  have hs := p0.st
  rw [mu] at hs
  have hsO : StR X.K ca (MuO Mu al fun _ => False) al S H1 := by
    rw [muO_none hs.mu]
    exact hs
  have sm : SameN H1 (upd H1 p (.lst [])) := LamX.ExtN.of (same_upd hp)
  obtain ⟨st1, _⟩ := EnvS.grow (pu := L.pu) (O := fun _ => False) hsO (envS_nil (fun _ z => z.elim)) sm (hs.tb.ext (same_upd hp)) (fre_none hp) (upd_same (o := .lst []))
  have he2 : EnvR X.K (MuO Mu al fun a => False ∨ a = p) al r σ (upd H1 p (.lst [])) := by
    have g := goes_grow (K := X.K) (M0 := Mu) (al := al) (O := fun _ => False) sm (fre_none hp)
    rw [muO_none hs.mu] at g
    exact he.go g (fun b o _ q nt => sm b o q nt) (fun _ h => .inl h) (fun _ h => .inl h)
  have npal : p ∉ al := fun z => notMu hs (fre_none hp) (hs.mu p z)
  rw [hb]
  refine ⟨_, al, S, r, he2, st1.st, ?_⟩
  have e : ev L (.word c) r S = (match ev L c r S with
    | .ok o S' => .ok (.v (.tuple [.str Str.empty, o.d])) S'
    | .exc x S' => if x.fs.length = exArity x.c then .ok (.v (wordV x)) S' else .bad
    | .bad => .bad) := rfl
  rw [e] at hg
  cases q : ev L c r S with
  | bad => rw [q] at hg; exact hg.elim
  | ok o S1 =>
    rw [q] at hg
    intro v H3 al1 pp ro
    have hp3 : H3 p = some (.lst []) := pp.ext p _ npal upd_same nt_lst
    have npal1 : p ∉ al1 := fun z => by
      obtain ⟨new, ea, hn⟩ := pp.app
      rw [ea] at z
      rcases List.mem_append.mp z with z | z
      · exact npal z
      · exact hn p z _ upd_same nt_lst
    refine hk v H3 ⟨hp3, fun t ht => ?_⟩
    have step2 := Step.ofPost pp
    have dis : ∀ a, (False ∨ a = p) → ¬ Mu a := fun a ha hm => by
      rcases ha with ha | ha
      · exact ha
      · exact notMu hs (fre_none hp) (ha ▸ hm)
    obtain ⟨st3, _⟩ := EnvS.chg (pu := L.pu) (ys := [v]) step2.st (envS_nil dis) (Or.inr rfl) npal1 hp3 (by simp)
    · have step4 := Step.ofPost (Post.same (pu := L.pu) st3.st (same_upd (o := .tup [.str ("" : Str), v]) ht))
      have post := (((st1.trans step2).trans st3).trans step4).post
      have ro : OutB false X.K (MuA (MuO Mu al fun a => False ∨ a = p) al1) al1 (upd H1 p (.lst [])) H3 v o := ro
      have rv := ro.rep pp.st
      rw [muO_muA pp.sub] at rv
      have g35 : Goes X.K (MuO Mu al1 fun a => False ∨ a = p) (MuO Mu al1 fun a => False ∨ a = p) al1 al1 H3 (upd (upd H3 p (.lst [v])) t (.tup [.str ("" : Str), v])) := ⟨fun a o n q2 _ => by
        have n1 : a ≠ p := fun z => n (.inr (.inr (.inr z)))
        have q4 : upd H3 p (.lst [v]) a = some o := by rw [upd_ne n1]; exact q2
        rw [upd_ne (ne_of_none q4 ht)]
        exact q4, fun _ _ h _ _ => h, fun _ _ h => h⟩
      have le : ∀ a, MuA Mu al1 a → MuO Mu al1 (fun a => False ∨ a = p) a := fun a z => z.elim .inl fun z => .inr (.inl z)
      refine hg (.ref t) _ al1 post (OutB.of (.tuple upd_same (fun z => notMu st3.st (fre_none ht) (le t z)) (.cons (.str _) (.cons ((rv.go g35).less le) .nil))))
  | exc x S1 =>
    rw [q] at hg
    intro cv dx H3 al1 pp er
    dsimp only at hg
    split at hg
    · rename_i har
      refine hE cv dx H3 ⟨x, _, al1, S1, pp.st, er, har, fun v H4 same hs4 rep => ?_⟩
      have step2 := Step.ofPost pp
      have post := ((st1.trans step2).trans (Step.ofPost (Post.sameN (pu := L.pu) step2.st same hs4.tb))).post
      rw [muO_muA pp.sub] at rep
      exact hg v H4 al1 post (OutB.of (rep.less fun a z => z.elim .inl fun z => .inr (.inl z)))
    · exact hg.elim
/-- _law_word(lambda: e) -/
theorem snd_word {n : Nat} {sg : Scope} {g B c0 P : Addr} {x a fnd en srt nms nme : Str} {b0 : Stmt} {suite : List Stmt} {j j2 k17 : Nat} {p1 p2 p3 p4 p5 p6 p7 p8 p9 p10 p11 p12 p13 p14 p15 p16 p17 p18 p lpos pos : Pos}
    {pg : Arguments} {dV kV doc pm cdv ct oc : Value} {an od : Option Addr} {osl : Array (Option Value)} {params : Arguments} {body : Expr} {scope : Scope} {c : CE} (hb : c.isBor = false)
    (hgx : Gl X x) (hm : X.mg x = some (.ref g)) (hk : PySem.W.keepIn X.K (.ref g) = true)
    (lk : X.K.lookup g = some ⟨oc, od, .func (PySem.W.fnOf x x pg [.Assign [.Name fnd p1] (.List [] p2) p3, .Try [.Expr (.Call (.Attribute (.Name fnd p4) "append" p5) [.Call (.Name a p6) [] [] p7] [] p8) p9] [.ExceptHandler (some (.Name "ProbeError" p10)) (some en) (b0 :: suite) p11] [] [] p12,
      .Return (some (.Tuple [.Constant (.str ("" : Str)) j p13, .Subscript (.Name fnd p14) (.Constant (.int 0) j2 p15) p16] k17 p17)) p18] sg dV kV doc pm an cdv ct), osl⟩) (hcg : PySem.W.codeIn X.K cdv x = true)
    (hbd : ∀ bg, L2.Binds X.K (PySem.W.fnOf x x pg bg sg dV kV doc pm an cdv ct) [a] []) (Sg : FnScope [a, fnd, en, srt, nms, nme] [a] sg)
    (hme : X.mg "ProbeError" = some (.ref B)) (hex : ∀ c, PySem.W.exmOne X.K (.ref (ca.cls c)) (.ref B) = some true)
    (h0 : nmB [a, fnd, en, srt, nms, nme] sg 0 a = true) (h1 : nmB [a, fnd, en, srt, nms, nme] sg 1 fnd = true) (h1' : loL [a, fnd, en, srt, nms, nme] sg 1 fnd = true) (h2 : loL [a, fnd, en, srt, nms, nme] sg 2 en = true) (hg : glB sg "ProbeError" = true)
    (hl : (p5.endLine == p8.line) = true)
    (HS : ∀ (s : Shared) (H : Hp) (ca' : Ca) (M0 : Addr → Prop) (c : Ec) (fs : List Pb.D) (ad : Addr) (oe : Obj) (cv : Value) (d : Option Addr) (pn : List (Addr × Obj)), SuX ca.cls ca' c fs cv d oe →
      SB ((cxOf C8.CX0 X.prog X.w X.K X.mg X.base [a, fnd, en, srt, nms, nme] x sg g cdv X.A X.stack s H C8.E0).suite ad ((ad, oe) :: pn)) ca' (fun _ _ _ => False) M0 Lw (b0 :: suite) (wordB c ad fs))
    (TB : LamX.TabB X.base X.mg c0 P) (hcode : X.env.code = .ref c0) (hmT : (P, X.env.qual ++ "<lambda>") ∈ ca.tabs) (hut : ∀ p ∈ ca.tabs, p.1 = P → p.2 = X.env.qual ++ "<lambda>") (hr : Room (n + 2) X.A) (hL : LamX.LamS X.env.scope scope) (hdef : defaultsOf params X.env = ([], []))
    (hbind : ∀ (q : Str) (cl : List (Str × Addr)) (pm cv ctv : Value), bindArgs (PySem.W.kla_fn "<lambda>" q params body scope cl pm cv ctv) ⟨[], []⟩ = pure [])
    (hbody : ∀ (A : Around) (outer : List Env) (s : Shared) (H : Hp) (E : XK) (f c' : Addr), Room n (A.deeper (LamX.lamEnv X scope s.heap.objs.size f c')) → SE (LamX.lamCx X A outer s H E scope f c') ca (WO E) L body c)
    (hdb : (x == ("__debug__" : Str)) = false := by decide) :
    SE X ca W L (.Call (.Name x p) [.Lambda params body scope lpos] [] pos) (.word c) := by
  refine imE (LamX.pe_lamcall (Ng := [a, fnd, en, srt, nms, nme]) hgx hm hk lk hcg (hbd _) Sg rfl (nmB_ok h0).2.1 (word_gives hme hex Sg.nd h0 h1 h1' h2 hg hl HS).to TB hcode hmT hut hr hL hdef hbind hbody hdb (nmB_ok h0).2.2.1 (nmB_ok h0).2.2.2) fun σ H Q h => word_imp hb h
end
end Pb
end

section
set_option Elab.async false
set_option linter.all false
set_option maxRecDepth 100000
set_option maxHeartbeats 2000000
/-! Lambdas as values: how one is made. -/
namespace Pb
open PySem PySem.Spec PyProof.Rows L2
/-- the function of a lambda stands at f -/
def lamO (qual : Str) (params : Arguments) (body : Expr) (scope : Scope) (clos : List (Str × Addr)) (dV : Value) (c' f : Addr) : HO :=
  .ext fun h => ∃ doc pm ctv, h.get? f = some (PySem.W.kdv_obj "<lambda>" qual params (.expr body) scope clos dV doc pm c' ctv)
/-- the objects of a lambda: the function, its code object, its default's tuple -/
def LamL (qual : Str) (params : Arguments) (body : Expr) (scope : Scope) (clos : List (Str × Addr)) (dv : Option Int) (f : Addr) (l : List (Addr × HO)) : Prop := match dv with
  | none => ∃ c', l = [(f, lamO qual params body scope clos .none c' f), (c', LamX.CodeO c' qual)]
  | some i => ∃ c' t0, l = [(f, lamO qual params body scope clos (.ref t0) c' f), (c', LamX.CodeO c' qual), (t0, .tup [.int i])]
theorem lamO_nt {qual : Str} {params : Arguments} {body : Expr} {scope : Scope} {clos : List (Str × Addr)} {dV : Value} {c' f : Addr} (ps : Array Value) : lamO qual params body scope clos dV c' f ≠ .tbl ps := fun z => by
  unfold lamO at z
  cases z
theorem lamL_nt {qual : Str} {params : Arguments} {body : Expr} {scope : Scope} {clos : List (Str × Addr)} {dv : Option Int} {f : Addr} {l : List (Addr × HO)} (h : LamL qual params body scope clos dv f l) : ∀ p ∈ l, ∀ ps, p.2 ≠ .tbl ps := fun p hp ps z => by
  cases dv with
  | none =>
    obtain ⟨c', rfl⟩ := h
    simp only [List.mem_cons, List.not_mem_nil, or_false] at hp
    rcases hp with rfl | rfl
    · exact lamO_nt ps z
    · exact LamX.codeO_ne ps z
  | some i =>
    obtain ⟨c', t0, rfl⟩ := h
    simp only [List.mem_cons, List.not_mem_nil, or_false] at hp
    rcases hp with rfl | rfl | rfl
    · exact lamO_nt ps z
    · exact LamX.codeO_ne ps z
    · cases z
theorem lamO_mut {qual : Str} {params : Arguments} {body : Expr} {scope : Scope} {clos : List (Str × Addr)} {dV : Value} {c' f : Addr} : ¬ MutL (some (lamO qual params body scope clos dV c' f)) := fun z => by
  unfold lamO at z
  exact z
theorem codeO_mut {c' : Addr} {q : Str} : ¬ MutL (some (LamX.CodeO c' q)) := fun z => by
  unfold LamX.CodeO at z
  exact z
/-- such objects are not among those that may change -/
theorem lamL_mut {qual : Str} {params : Arguments} {body : Expr} {scope : Scope} {clos : List (Str × Addr)} {dv : Option Int} {f : Addr} {l : List (Addr × HO)} (h : LamL qual params body scope clos dv f l) : ∀ p ∈ l, ¬ MutL (some p.2) := fun p hp z => by
  cases dv with
  | none =>
    obtain ⟨c', rfl⟩ := h
    simp only [List.mem_cons, List.not_mem_nil, or_false] at hp
    rcases hp with rfl | rfl
    · exact lamO_mut z
    · exact codeO_mut z
  | some i =>
    obtain ⟨c', t0, rfl⟩ := h
    simp only [List.mem_cons, List.not_mem_nil, or_false] at hp
    rcases hp with rfl | rfl | rfl
    · exact lamO_mut z
    · exact codeO_mut z
    · exact z
section
variable {X : Cx} {pins : List (Addr × Obj)} {σ : L2.St} {H : Hp} {s : Shared}
/-- the tail of the making: the code object found or made, the function laid -/
theorem lam_tail {T : List (Addr × Str)} {c P : Addr} {params : Arguments} {body : Expr} {scope : Scope} {pos : Pos} {dV : Value} {E Q : Value → Shared → Prop} (I : Inv X pins σ H s) (TB : LamX.TabB X.base X.mg c P) (hcode : X.env.code = .ref c)
    (hm : (P, X.env.qual ++ "<lambda>") ∈ T) (hu : ∀ p ∈ T, p.1 = P → p.2 = X.env.qual ++ "<lambda>") (hT : LamX.Tabs T H) (hfree : ∀ y ∈ scope.names, y.2 = .free → ∃ c, X.env.cells.lookup y.1 = some c)
    (k : ∀ (f c' : Addr) (H1 : Hp) (s' : Shared), Inv X pins σ H1 s' → LamX.ExtN H H1 → LamX.Tabs T H1 → H1 f = some (lamO (X.env.qual ++ "<lambda>") params body scope (cloFrom X.env.cells scope.names []) dV c' f) →
      H1 c' = some (LamX.CodeO c' (X.env.qual ++ "<lambda>")) → Q (.ref f) s') :
    wpAny (model X.prog X.w) X.A (makeTail "<lambda>" (X.env.qual ++ "<lambda>") params (.expr body) scope X.env dV .none none pos pos.line) Q E s := by
  obtain ⟨ps, hP, ht, ha⟩ := hT _ hm
  have bP : s.heap.BuiltinsAt X.mg P := TB.bm.keeps I.bk
  have hP' : s.heap.get? P = some { cls := .none, data := .fields ps } := I.hok P _ hP
  -- the function, laid over what stands
  have lay : ∀ {H1 : Hp} {h1 : Heap} {tk : Nat} {c' : Addr} {doc pm ctv : Value}, Inv X pins σ H1 { s with heap := h1, toks := tk } → LamX.ExtN H H1 → LamX.Tabs T H1 → H1 c' = some (LamX.CodeO c' (X.env.qual ++ "<lambda>")) →
      Q (.ref h1.objs.size) { s with heap := h1.push (PySem.W.kdv_obj "<lambda>" (X.env.qual ++ "<lambda>") params (.expr body) scope (cloFrom X.env.cells scope.names []) dV doc pm c' ctv), toks := tk } := fun {H1 h1 tk c' doc pm ctv} I1 e1 t1 hc => by
    have hn : H1 h1.objs.size = none := I1.hok.fresh (Nat.le_refl _)
    have hg : (h1.push (PySem.W.kdv_obj "<lambda>" (X.env.qual ++ "<lambda>") params (.expr body) scope (cloFrom X.env.cells scope.names []) dV doc pm c' ctv)).get? h1.objs.size = some (PySem.W.kdv_obj "<lambda>" (X.env.qual ++ "<lambda>") params (.expr body) scope (cloFrom X.env.cells scope.names []) dV doc pm c' ctv) := Heap.get?_push_size _ rfl
    have I2 := I1.laid (a := h1.objs.size) (o := lamO (X.env.qual ++ "<lambda>") params body scope (cloFrom X.env.cells scope.names []) dV c' h1.objs.size) (t' := tk)
      (h' := h1.push (PySem.W.kdv_obj "<lambda>" (X.env.qual ++ "<lambda>") params (.expr body) scope (cloFrom X.env.cells scope.names []) dV doc pm c' ctv)) (fun b o e => Heap.get?_push_of_some _ e) (Nat.le_refl _)
      ⟨⟨doc, pm, ctv, hg⟩, ⟨_, hg⟩, fun a b ⟨x, y, z, q⟩ st => ⟨x, y, z, st _ q⟩⟩
    refine k h1.objs.size c' _ _ I2 (e1.trans (LamX.ExtN.of (same_upd hn))) (t1.ext (same_upd hn)) upd_same ?_
    rw [upd_ne (ne_of_none hc hn)]
    exact hc
  cases hc : codeAmong pos ps.toList with
  | none =>
    refine PySem.W.kdv_makeTail (mg := X.mg) (c := c) (P := P) (ps := ps) (closure_ok hfree) I.ok.glob (I.mod.glob.keeps I.bk) hcode (TB.code.keeps I.bk) hP' ht hc TB.gP bP fun c' ctv doc h' tk hx hge hlt hrec htb => ?_
    obtain ⟨c2, oc, vs, t, e2, hoc, hd, hv⟩ := hrec
    cases e2
    have nC : H c' = none := I.hok.fresh hge
    have I1 := LamX.inv_table (t' := tk) (more := #[rawInt pos.line, rawInt pos.col, .ref c']) (h' := h') I hP (fun b o hb e => hx b o hb e) htb hge ⟨oc, vs, t, hoc, hd, hv⟩
    have hE : LamX.ExtN H (upd (upd H P (.tbl (ps ++ #[rawInt pos.line, rawInt pos.col, .ref c']))) c' (LamX.CodeO c' (X.env.qual ++ "<lambda>"))) := fun b o e n => by
      rw [upd_ne (ne_of_none e nC), upd_ne fun z => n ps (Option.some.inj (e.symm.trans (by rw [z]; exact hP)))]
      exact e
    have eL : (ps ++ #[rawInt pos.line, rawInt pos.col, .ref c']).toList = ps.toList ++ [rawInt pos.line, rawInt pos.col, .ref c'] := by simp
    refine lay I1 hE (fun p hp => ?_) upd_same
    by_cases hb : p.1 = P
    · rw [hu p hp hb, hb]
      refine ⟨_, by rw [upd_ne (ne_of_none hP nC), upd_same], by rw [eL]; exact PySem.TriplesOk_snoc _ _ _ _ ht, fun p' cv hcv => ?_⟩
      rw [eL] at hcv
      rcases LamX.among_app _ ht hcv with z | z
      · obtain ⟨c0, e1, e2⟩ := ha p' cv z
        exact ⟨c0, e1, hE _ _ e2 LamX.codeO_ne⟩
      · exact ⟨c', z, upd_same⟩
    · obtain ⟨ps', a1, a2, a3⟩ := hT p hp
      refine ⟨ps', by rw [upd_ne (ne_of_none a1 nC), upd_ne hb]; exact a1, a2, fun p' cv hcv => ?_⟩
      obtain ⟨c0, e1, e2⟩ := a3 p' cv hcv
      exact ⟨c0, e1, hE _ _ e2 LamX.codeO_ne⟩
  | some cv =>
    obtain ⟨c', e, hco⟩ := ha pos cv hc
    subst e
    refine PySem.W.kdv_makeTailHit (mg := X.mg) (c := c) (P := P) (ps := ps) (closure_ok hfree) I.ok.glob (I.mod.glob.keeps I.bk) hcode (TB.code.keeps I.bk) hP' ht hc bP fun ctv doc h' tk hx hsz => ?_
    exact lay (I.kept hx) (LamX.ExtN.refl H) hT hco
/-- a lambda is made -/
theorem lam_new {T : List (Addr × Str)} {c P : Addr} {params : Arguments} {body : Expr} {scope : Scope} {pos : Pos} {dv : Option Int} {E Q : Value → Shared → Prop} (I : Inv X pins σ H s) (TB : LamX.TabB X.base X.mg c P) (hcode : X.env.code = .ref c)
    (hm : (P, X.env.qual ++ "<lambda>") ∈ T) (hu : ∀ p ∈ T, p.1 = P → p.2 = X.env.qual ++ "<lambda>") (hT : LamX.Tabs T H) (hfree : ∀ y ∈ scope.names, y.2 = .free → ∃ c, X.env.cells.lookup y.1 = some c)
    (hk : params.kw_defaults = []) (hd : match dv with
      | none => params.defaults = []
      | some i => ∃ j p, params.defaults = [.Constant (.int i) j p])
    (k : ∀ (f : Addr) (l : List (Addr × HO)) (H1 : Hp) (s' : Shared), Inv X pins σ H1 s' → LamX.ExtN H H1 → LamX.Tabs T H1 → LamL (X.env.qual ++ "<lambda>") params body scope (cloFrom X.env.cells scope.names []) dv f l → (∀ p ∈ l, H1 p.1 = some p.2) → Q (.ref f) s') :
    wpAny (model X.prog X.w) X.A (eval (.Lambda params body scope pos) X.env) Q E s := by
  cases dv with
  | none =>
    have hdef : defaultsOf params X.env = ([], []) := by
      rw [defaultsOf_eq, hk]
      rw [show params.defaults = [] from hd]
      rfl
    refine PySem.W.kla_eval hdef ?_
    rw [makeFunction_eq]
    simp only [List.zip_nil_right, List.filterMap_nil, List.isEmpty_nil, if_true, pure_bind]
    refine lam_tail I TB hcode hm hu hT hfree fun f c' H1 s' I1 e1 t1 h1 h2 => k f _ H1 s' I1 e1 t1 ⟨c', rfl⟩ fun p hp => ?_
    simp only [List.mem_cons, List.not_mem_nil, or_false] at hp
    rcases hp with rfl | rfl
    · exact h1
    · exact h2
  | some i =>
    obtain ⟨j, p, hd⟩ := hd
    refine PySem.W.kdv_lam (by rw [hd]; rfl) hk ?_
    rw [hd]
    refine PySem.W.kdv_all1 (thn ((pe_int (X := X) (i := i) (j := j) (pos := p)).run pins s σ H (fun v H1 => v = .int i ∧ H1 = H) I ⟨rfl, rfl⟩) fun u s1 ⟨v, H1, I1, r1, ev, eH⟩ => PySem.W.kdv_all0 ?_)
    subst ev eH
    rw [makeFunction_eq]
    simp only [List.zip_nil_right, List.filterMap_nil, List.isEmpty_nil, List.isEmpty_cons, Bool.false_eq_true, if_false, if_true, pure_bind]
    refine wpAny_bind (wpAny_newTextTuple ?_)
    have I2 := I1.laid (a := s1.heap.objs.size) (o := .tup [.int i]) (t' := s1.toks) (h' := s1.heap.push { cls := .type "tuple", data := .seq [u].toArray }) (fun b o e => Heap.get?_push_of_some _ e) (Nat.le_refl _)
      ⟨by rw [sizeLine_eq]; simp, [u], .cons r1 .nil, _, Heap.get?_push_size _ rfl, rfl, 0, rfl⟩
    have hn : H1 s1.heap.objs.size = none := I1.hok.fresh (Nat.le_refl _)
    refine lam_tail I2 TB hcode hm hu (hT.ext (same_upd hn)) hfree fun f c' H2 s' I3 e3 t3 h1 h2 => k f _ H2 s' I3 ((LamX.ExtN.of (same_upd hn)).trans e3) t3 ⟨c', s1.heap.objs.size, rfl⟩ fun p hp => ?_
    simp only [List.mem_cons, List.not_mem_nil, or_false] at hp
    rcases hp with rfl | rfl | rfl
    · exact h1
    · exact h2
    · exact e3 _ _ upd_same (fun ps z => by cases z)
end
end Pb
end

section
set_option Elab.async false
set_option linter.all false
set_option maxRecDepth 100000
set_option maxHeartbeats 2000000
/-! Lambdas as values: how one is called. -/
namespace Pb
open PySem PySem.Spec PyProof.Rows L2
/-- a lambda's names: captured ones and globals; its own are none of the def's -/
structure LamS2 (N : List Str) (sc scope : Scope) (ys : List Str) : Prop where
  kind : scope.kind = .function
  co : scope.isCoroutine = false
  gen : scope.isGenerator = false
  own : ∀ y ∈ scope.names, y.2 ≠ .cell ∧ (y.2 = .local → y.1 ∉ N)
  par : ∀ y ∈ ys, scope.names.lookup y = some .local
  free : ∀ y ∈ scope.names, y.2 = .free → sc.names.lookup y.1 = some .cell ∨ sc.names.lookup y.1 = some .free
def lamSB2 (N : List Str) (sc scope : Scope) (ys : List Str) : Bool :=
  decide (scope.kind = .function) && !scope.isCoroutine && !scope.isGenerator && (scope.names.all fun y => !decide (y.2 = .cell) && (!decide (y.2 = .local) || decide (y.1 ∉ N)) && (!decide (y.2 = .free) || decide (sc.names.lookup y.1 = some .cell) || decide (sc.names.lookup y.1 = some .free))) &&
  ys.all fun y => decide (scope.names.lookup y = some .local)
theorem lamSB2_ok {N : List Str} {sc scope : Scope} {ys : List Str} (h : lamSB2 N sc scope ys = true) : LamS2 N sc scope ys := by
  unfold lamSB2 at h
  simp only [Bool.and_eq_true, Bool.or_eq_true, Bool.not_eq_true', decide_eq_true_eq, decide_eq_false_iff_not, List.all_eq_true] at h
  obtain ⟨⟨⟨⟨h1, h2⟩, h3⟩, h4⟩, h5⟩ := h
  refine ⟨h1, h2, h3, fun y hy => ⟨(h4 y hy).1.1, fun e => ?_⟩, h5, fun y hy e => ?_⟩
  · rcases (h4 y hy).1.2 with z | z
    · exact absurd e z
    · exact z
  · rcases (h4 y hy).2 with (z | z) | z
    · exact absurd e z
    · exact .inl z
    · exact .inr z
theorem LamS2.has {Y : Cx} {scope : Scope} {ys : List Str} (L : LamS2 Y.N Y.env.scope scope ys) (ok : Y.Ok) : ∀ y ∈ scope.names, y.2 = .free → ∃ c, Y.env.cells.lookup y.1 = some c := fun y hy e => by
  rcases L.free y hy e with k | k
  · exact ok.has _ (.inl k)
  · exact ok.has _ (.inr k)
section
variable {Y : Cx} {pins : List (Addr × Obj)} {σ : L2.St} {H HZ : Hp} {s s1 : Shared}
/-- the lambda's frame is entered at s1, which came of s -/
theorem lam_startL {A : Around} {outer : List Env} {E : XK} {scope : Scope} {ys : List Str} {f c' : Addr} {h₁ : Heap} {tk : Nat} {m : Str → Option Value} (J : Inv Y pins σ H s) (L : LamS2 Y.N Y.env.scope scope ys) (e0 : Env0 Y.prog Y.w Y.K Y.mg Y.base A outer s1 HZ) (hd : A.handled = none)
    (cellK0 : ∀ {x : Str} {c : Addr} {v : Option Value}, Y.env.cells.lookup x = some c → s.heap.IsCell c v → s1.heap.IsCell c v) (freeK : ∀ (x : Str) (c : Addr), Y.env.cells.lookup x = some c → HZ c = none) (hns : h₁.Ns s1.heap.objs.size m) (kp : ∀ b o, s1.heap.get? b = some o → h₁.get? b = some o) :
    Inv (LamX.lamCx Y A outer s1 HZ E scope f c') [] σ HZ { s1 with heap := h₁, toks := tk } := by
  have hfree := L.has J.ok
  have same : ∀ {y : Str} {c : Addr}, (cloFrom Y.env.cells scope.names []).lookup y = some c → Y.env.cells.lookup y = some c := fun {y c} e => by
    rcases cloFrom_mem (PySem.mem_of_lookup e) with z | ⟨z1, z2⟩
    · cases z
    · obtain ⟨c1, hc1⟩ := hfree _ z1 rfl
      have hc1 : Y.env.cells.lookup y = some c1 := hc1
      have e2 : c = c1 := by
        rw [z2, hc1] <;> rfl
      rw [e2]
      exact hc1
  have there : ∀ {y : Str}, scope.names.lookup y = some .free → ∃ c, (cloFrom Y.env.cells scope.names []).lookup y = some c := fun {y} hl => by
    have hy : (y, NameKind.free) ∈ scope.names := PySem.mem_of_lookup hl
    exact mem_lookup (cloFrom_has (cells := Y.env.cells) (acc := []) hy)
  have cellK : ∀ {x : Str} {c : Addr} {v : Option Value}, Y.env.cells.lookup x = some c → s.heap.IsCell c v → h₁.IsCell c v := fun {x c v} n i => by
    obtain ⟨o, ho, hd2⟩ := cellK0 n i
    exact ⟨o, kp _ _ ho, hd2⟩
  have none_ : ∀ b : Addr, b ∉ (LamX.lamCx Y A outer s1 HZ E scope f c').ex := fun b z => absurd (show b ∈ ([] : List Addr) from z) (by simp)
  have noCell : ∀ {y : Str}, scope.names.lookup y ≠ some .cell := fun {y} z => (L.own _ (PySem.mem_of_lookup z)).1 rfl
  refine ⟨⟨e0.mod, L.kind, rfl, rfl, Nat.le_refl _, fun y z c e1 e2 => J.ok.inj y z c (same e1) (same e2), fun y hy => ?_, fun y c z _ => ?_, fun _ => hd, Around.frames_deeper e0.frames, .inr ⟨rfl, rfl⟩, fun b z => absurd z (none_ b), e0.bs, e0.bsz, fun b _ _ => none_ b, fun b z => absurd z (none_ b), e0.funs, e0.frf⟩,
    rfl, e0.bare, Un.kept kp, ⟨_, hns, fun i y v e1 e2 e3 => ?_⟩, fun y c e => ?_, e0.hok.fresh (Nat.le_refl _), fun y c e => ?_, fun q hq => absurd (show q ∈ ([] : List (Addr × Obj)) ++ [] from hq) (by simp), e0.hok.kept kp, J.len⟩
  · have hy : scope.names.lookup y = some .cell ∨ scope.names.lookup y = some .free := hy
    exact hy.elim (fun z => (noCell z).elim) there
  · have z : false = true := z
    cases z
  · have e3 : Vis scope y := e3
    rcases e3 with k | k | k
    · exact absurd (List.mem_of_getElem? (show Y.N[i]? = some y from e1)) ((L.own _ (PySem.mem_of_lookup k)).2 rfl)
    · exact (noCell k).elim
    · obtain ⟨m', _, hl⟩ := J.loc
      have hvis : Vis Y.env.scope y := (L.free _ (PySem.mem_of_lookup k) rfl).elim (fun z => .inr (.inl z)) (fun z => .inr (.inr z))
      obtain ⟨w', r, q⟩ := hl i y v e1 e2 hvis
      obtain ⟨c2, h2⟩ := there k
      refine ⟨w', r, .inr ⟨.inr k, c2, h2, ?_⟩⟩
      have c1 := same h2
      rcases q with ⟨k', _⟩ | ⟨_, c3, e', z⟩
      · have k' : Y.env.scope.names.lookup y = some .local := k'
        rcases L.free _ (PySem.mem_of_lookup k) rfl with k2 | k2 <;> rw [show Y.env.scope.names.lookup y = _ from k2] at k' <;> cases k'
      · rw [c1] at e'
        cases e'
        exact cellK c1 z
  · obtain ⟨w', z⟩ := J.cell y c (same e)
    exact ⟨w', cellK (same e) z⟩
  · exact freeK y c (same e)
/-- the binding of a lambda's arguments: none are given -/
def BindD (params : Arguments) (body : Expr) (scope : Scope) (dv : Option Int) (ys : List Str) : Prop := match dv with
  | none => ys = [] ∧ ∀ (q : Str) (cl : List (Str × Addr)) (doc pm cv ctv : Value), bindArgs (PySem.W.kdv_fn "<lambda>" q params (.expr body) scope cl .none doc pm cv ctv) ⟨[], []⟩ = pure []
  | some _ => ∃ y, ys = [y] ∧ ∀ (q : Str) (cl : List (Str × Addr)) (dV doc pm cv ctv u : Value), ∃ k : Option (Array Value) → Sem (List (Str × Value)), bindArgs (PySem.W.kdv_fn "<lambda>" q params (.expr body) scope cl dV doc pm cv ctv) ⟨[], []⟩ = (seqItems? dV >>= k) ∧ k (some #[u]) = pure [(y, u)]
/-- what is known of a lambda, to call it in a frame of X at s, its own def's context being Y -/
structure LamC (X Y : Cx) (σ : L2.St) (H : Hp) (s : Shared) (params : Arguments) (body : Expr) (scope : Scope) (dv : Option Int) (ys : List Str) : Prop where
  S : LamS2 Y.N Y.env.scope scope ys
  B : BindD params body scope dv ys
  start : ∀ (A : Around) (outer : List Env) (E : XK) (f c' : Addr) (s1 : Shared) (HZ : Hp) (h₁ : Heap) (tk : Nat) (m : Str → Option Value), Env0 X.prog X.w X.K X.mg X.base A outer s1 HZ → A.handled = none → Un (frs X.stack) [] H HZ s.heap s1.heap → h₁.Ns s1.heap.objs.size m → (∀ b o, s1.heap.get? b = some o → h₁.get? b = some o) →
    Inv (LamX.lamCx Y A outer s1 HZ E scope f c') [] σ HZ { s1 with heap := h₁, toks := tk }
/-- in its own def -/
theorem LamC.self {params : Arguments} {body : Expr} {scope : Scope} {dv : Option Int} {ys : List Str} (J : Inv Y pins σ H s) (L : LamS2 Y.N Y.env.scope scope ys) (B : BindD params body scope dv ys) : LamC Y Y σ H s params body scope dv ys :=
  ⟨L, B, fun A outer E f c' s1 HZ h₁ tk m e0 hd un hns kp => lam_startL J L e0 hd (fun {x c v} n ⟨o, ho, hd2⟩ => by
    obtain ⟨sl, q⟩ := un.any ho (J.freeC x c n) (by simp)
    exact ⟨_, q, hd2⟩) (fun x c n => by
    obtain ⟨v, o, ho, hd2⟩ := J.cell x c n
    exact un.free c o ho (J.freeC x c n) (by simp)) hns kp⟩
end
section
variable {X Y : Cx} {pins : List (Addr × Obj)} {σ : L2.St} {H : Hp} {s : Shared}
/-- x(), in the def that got the lambda -/
theorem pe_actL {CXg : CXT} {Eg : XK} {Ng : List Str} {qg : Str} {sg : Scope} {g f : Addr} {cdg : Value} {params : Arguments} {body : Expr} {scope : Scope} {dv : Option Int} {ys : List Str} {k i : Nat} {a : Str} {pn : List (Addr × Obj)} {xe : Value → Shared → Prop} {W : WX} {E : XK} {tb : TE} {p1 p2 : Pos} {l : List (Addr × HO)}
    (eP : Y.prog = X.prog) (eW : Y.w = X.w) (C : LamC X Y σ H s params body scope dv ys) (hl : LamL (Y.env.qual ++ "<lambda>") params body scope (cloFrom Y.env.cells scope.names []) dv f l)
    (tk : Takes ((cxOf CXg X.prog X.w X.K X.mg X.base Ng qg sg g cdg X.A X.stack s H Eg).tr pn xe) W) (hW : ∀ cls d σ' H', E cls d H' → W cls d σ' H') (hr : Room (k + 1) (X.A.deeper (envOfC qg sg s.heap.objs.size g cdg)))
    (hbody : ∀ (A : Around) (outer : List Env) (s : Shared) (H : Hp) (c' : Addr), Room k (A.deeper (LamX.lamEnv Y scope s.heap.objs.size f c')) → PE (LamX.lamCx Y A outer s H E scope f c') body tb)
    (hN : Ng[i]? = some a) (hv : Vis sg a) (hd : (a == ("__debug__" : Str)) = false := by decide) (hcd : (a == ("__classdict__" : Str)) = false := by decide) :
    PE ((cxOf CXg X.prog X.w X.K X.mg X.base Ng qg sg g cdg X.A X.stack s H Eg).tr pn xe) (.Call (.Name a p1) [] [] p2)
      (fun σZ HZ Q => σZ[i]? = some (some (.ref f)) ∧ (∀ p ∈ l, HZ p.1 = some p.2) ∧ tb σ HZ Q) := by
  refine ⟨fun pinsZ sZ σZ HZ Q IZ h => ?_⟩
  obtain ⟨hs, hc, ht⟩ := h
  refine wpAny_Call_Name_kw (thn ((pe_var (pos := p1) (i := i) hN hv hd hcd).run pinsZ sZ σZ HZ (fun v H1 => v = .ref f ∧ H1 = HZ) IZ ⟨.ref f, hs, rfl, rfl⟩) fun u s1 ⟨v, H1, I1, r1, q1⟩ => ?_)
  obtain ⟨ev, eH⟩ := q1
  subst ev
  rw [eH] at I1
  obtain rfl : u = Value.ref f := r1
  have un : Un (frs X.stack) [] H HZ s.heap s1.heap := I1.base
  -- what stands: the function, its code object, the binding
  have key : ∃ (c' : Addr) (dV doc pm ctv : Value) (bs : List (Str × Value)), s1.heap.get? f = some (PySem.W.kdv_obj "<lambda>" (Y.env.qual ++ "<lambda>") params (.expr body) scope (cloFrom Y.env.cells scope.names []) dV doc pm c' ctv) ∧ HZ c' = some (LamX.CodeO c' (Y.env.qual ++ "<lambda>")) ∧
      BindsTo s1 (PySem.W.kdv_fn "<lambda>" (Y.env.qual ++ "<lambda>") params (.expr body) scope (cloFrom Y.env.cells scope.names []) dV doc pm (.ref c') ctv) ⟨[], []⟩ bs ∧ ∀ y ∈ bs, scope.names.lookup y.1 = some .local := by
    cases dv with
    | none =>
      obtain ⟨c', rfl⟩ := hl
      obtain ⟨hy, hb⟩ := C.B
      have hf := hc _ List.mem_cons_self
      obtain ⟨⟨doc, pm, ctv, e⟩, _, _⟩ := I1.hok f _ hf
      exact ⟨c', _, doc, pm, ctv, [], e, hc _ (List.mem_cons_of_mem _ List.mem_cons_self), .of_eq (hb _ _ _ _ _ _), by simp⟩
    | some i0 =>
      obtain ⟨c', t0, rfl⟩ := hl
      obtain ⟨y, hy, hb⟩ := C.B
      have hf := hc _ List.mem_cons_self
      obtain ⟨⟨doc, pm, ctv, e⟩, _, _⟩ := I1.hok f _ hf
      have ht0 : HZ t0 = some (.tup [.int i0]) := hc _ (List.mem_cons_of_mem _ (List.mem_cons_of_mem _ List.mem_cons_self))
      obtain ⟨its, rv, ⟨o, ho, hcl, n, hdt⟩, _⟩ := I1.tuple (SqT.of ht0)
      cases rv with
      | cons ru rr =>
        cases rr
        rename_i u0
        obtain ⟨kk, b1, b2⟩ := hb (Y.env.qual ++ "<lambda>") (cloFrom Y.env.cells scope.names []) (.ref t0) doc pm (.ref c') ctv u0
        refine ⟨c', _, doc, pm, ctv, [(y, u0)], e, hc _ (List.mem_cons_of_mem _ List.mem_cons_self), BindsTo.of_defaults rfl ho hdt b1 b2, fun z hz => ?_⟩
        rw [List.mem_singleton.mp hz]
        exact C.S.par y (by rw [hy]; simp)
  obtain ⟨c', dV, doc, pm, ctv, bs, of1, hco, hbd, hbl⟩ := key
  refine PySem.W.callWith_F0 ⟨_, _, _, _, of1⟩ ?_
  obtain ⟨⟨oc, vs, t, hoc, hdc, hvc⟩, _, _⟩ := I1.hok c' _ hco
  have rc : codeAny (model X.prog X.w) (X.A.deeper (envOfC qg sg s.heap.objs.size g cdg)) (.call (.ref f) ⟨[], []⟩) (CR (L2.CX X.prog X.w) (envOfC qg sg s.heap.objs.size g cdg :: X.stack) X.prog X.w HZ s1 Q E) s1 := by
    refine PySem.W.kla_callFunE hr.depth of1 rfl C.S.co C.S.gen rfl ⟨c', oc, vs, t, rfl, hoc, hdc, hvc⟩ (hbd _ _ _ _ ?_)
    refine wpAny_newFunctionEnv (fun y hy => (C.S.own y hy).1) hbl (fun h₁ hns hsb => ⟨I1.nolimit.fresh _ hsb, ?_⟩) C.S.kind
    show codeAny _ _ (.expr body (LamX.lamEnv Y scope s1.heap.objs.size f c')) _ _
    have kp : ∀ b o, s1.heap.get? b = some o → h₁.get? b = some o := fun b o e => hsb.extBut b o (Nat.ne_of_lt (Heap.lt_size e)) (Heap.get?_push_of_some _ e)
    have J := C.start (X.A.deeper (envOfC qg sg s.heap.objs.size g cdg)) (envOfC qg sg s.heap.objs.size g cdg :: X.stack) E f c' s1 HZ h₁ (s1.toks + bs.length) _ I1.env0 hr.hd un hns kp
    have hb := (hbody _ _ s1 HZ c' (hr.deeper _)).run [] _ _ HZ Q J ht
    change wpAny (model Y.prog Y.w) _ _ _ _ _ at hb
    rw [eP, eW] at hb
    refine PySem.W.kla_codeExpr (wpAny_mono hb (fun v s' hq => ?_) fun e s' hq => ?_)
    rotate_left
    · change wpAny (model Y.prog Y.w) _ _ (fun _ s'' => L2.CX Y.prog Y.w (envOfC qg sg s.heap.objs.size g cdg :: X.stack) HZ s1 E e s'') (fun e' s'' => L2.CX Y.prog Y.w (envOfC qg sg s.heap.objs.size g cdg :: X.stack) HZ s1 E e' s'') s' at hq
      rw [eP, eW] at hq
      exact hq
    obtain ⟨w', H', J', rv, q⟩ := hq
    refine ⟨w', H', J'.os, J'.bare, J'.base, ?_, rv, q⟩
    have := J'.hok
    rw [show (LamX.lamCx Y (X.A.deeper (envOfC qg sg s.heap.objs.size g cdg)) (envOfC qg sg s.heap.objs.size g cdg :: X.stack) s1 HZ E scope f c').prog = X.prog from eP, show (LamX.lamCx Y (X.A.deeper (envOfC qg sg s.heap.objs.size g cdg)) (envOfC qg sg s.heap.objs.size g cdg :: X.stack) s1 HZ E scope f c').w = X.w from eW] at this
    exact this
  have hx : Passes (L2.CX X.prog X.w) ((cxOf CXg X.prog X.w X.K X.mg X.base Ng qg sg g cdg X.A X.stack s H Eg).tr pn xe) E := passes_call tk hW
  refine wpAny_call (codeAny_mono rc fun r s' hq => ?_)
  cases r with
  | error e => exact hx pinsZ σZ HZ s1 e s' I1 hq
  | ok fl =>
    cases fl with
    | ret u => exact I1.after hq
    | next => exact False.elim hq
    | brk => exact False.elim hq
    | cont => exact False.elim hq
end
end Pb
end

section
set_option Elab.async false
set_option linter.all false
set_option maxRecDepth 100000
set_option maxHeartbeats 2000000
/-! Lambdas as values: the rules. -/
namespace Pb
open PySem PySem.Spec PyProof.Rows L2
section
variable {X : Cx} {ca : Ca} {W : WX} {L : Lk}
/-- a lambda as a value -/
theorem snd_lam {c P : Addr} {params : Arguments} {body : Expr} {scope : Scope} {pos : Pos} {dv : Option Int} {ys : List Str} {k : Nat} (TB : LamX.TabB X.base X.mg c P) (hcode : X.env.code = .ref c)
    (hm : (P, X.env.qual ++ "<lambda>") ∈ ca.tabs) (hu : ∀ p ∈ ca.tabs, p.1 = P → p.2 = X.env.qual ++ "<lambda>") (hS : LamS2 X.N X.env.scope scope ys)
    (hk : params.kw_defaults = []) (hd : match dv with
      | none => params.defaults = []
      | some i => ∃ j p, params.defaults = [.Constant (.int i) j p])
    (hlo : ∀ f l, LamL (X.env.qual ++ "<lambda>") params body scope (cloFrom X.env.cells scope.names []) dv f l → L.lo k f l) : SE X ca W L (.Lambda params body scope pos) (.lamE k) := by
  refine ⟨fun pins s σ H Q I h => ?_⟩
  obtain ⟨Mu, al, S, r, he, hs, hg⟩ := h
  refine lam_new I TB hcode hm hu hs.tb (hS.has I.ok) hk hd fun f l H1 s' I1 e1 t1 hl hp => ?_
  refine ⟨.ref f, H1, I1, rfl, ?_⟩
  have hs1 := hs.sameN e1 t1
  refine Goal.ok (show Goal X.K ca L.pu _ Mu al S H (ROut X.K false) (.ok (.v (.lam k (L.lo k))) S) Q from hg) (Post.sameN hs e1 t1) (OutB.of ?_)
  show Rep X.K (MuA Mu al) al H1 (.ref f) (.lam k (L.lo k))
  rw [muA_eq hs.mu]
  refine .lam (hlo f l hl) fun p hpl => ⟨hp p hpl, fun hm => ?_, lamL_nt hl p hpl⟩
  have m := hs1.tr p.1 hm
  rw [hp p hpl] at m
  exact lamL_mut hl p hpl m
/-- what is known of the value of an expression that is to be a lambda -/
structure LamV (X : Cx) (ca : Ca) (n : Nat) (σ : L2.St) (H : Hp) (v : V) (Q : VK) : Prop where
  ex : ∃ (f : Addr) (l : List (Addr × HO)) (params : Arguments) (body : Expr) (scope : Scope) (dv : Option Int) (ys : List Str) (tb : XK → TE), v = .ref f ∧ LamL (X.env.qual ++ "<lambda>") params body scope (cloFrom X.env.cells scope.names []) dv f l ∧ (∀ p ∈ l, H p.1 = some p.2) ∧
    LamS2 X.N X.env.scope scope ys ∧ BindD params body scope dv ys ∧ (∀ (A : Around) (outer : List Env) (s : Shared) (H : Hp) (E : XK) (c' : Addr), Room n (A.deeper (LamX.lamEnv X scope s.heap.objs.size f c')) → PE (LamX.lamCx X A outer s H E scope f c') body (tb E)) ∧
    TTw X.K ca (fun E H' Q' => tb E σ H' Q') H Q
/-- _law_word(e), e a lambda -/
theorem pe_callv {n : Nat} {x a : Str} {g : Addr} {pg : Arguments} {bg : List Stmt} {sg : Scope} {dV kV doc pm cdv ct oc : Value} {an od : Option Addr} {osl : Array (Option Value)} {Ng : List Str} {e : Expr} {te : TE} {p pos : Pos}
    (hg : Gl X x) (hm : X.mg x = some (.ref g)) (hk : PySem.W.keepIn X.K (.ref g) = true)
    (lk : X.K.lookup g = some ⟨oc, od, .func (PySem.W.fnOf x x pg bg sg dV kV doc pm an cdv ct), osl⟩) (hcg : PySem.W.codeIn X.K cdv x = true) (hb : L2.Binds X.K (PySem.W.fnOf x x pg bg sg dV kV doc pm an cdv ct) [a] []) (Sg : FnScope Ng [a] sg) (hNg : Ng[0]? = some a) (hva : Vis sg a)
    (hG : GivesL X Ng x sg g cdv bg a (TTw X.K ca)) (hr : Room (n + 2) X.A) (he : PE X e te) (hp : plainE e = true)
    (hdb : (x == ("__debug__" : Str)) = false := by decide) (hd : (a == ("__debug__" : Str)) = false := by decide) (hcd : (a == ("__classdict__" : Str)) = false := by decide) :
    PE X (.Call (.Name x p) [e] [] pos) (fun σ H Q => te σ H fun v H1 => LamV X ca n σ H1 v Q) := by
  refine ⟨fun pins s σ H Q I h => ?_⟩
  refine wpAny_Call_Name_kw (ld_glob I hg hm ?_ hdb)
  refine PySem.W.callWith_K (h₀ := X.base) I.ok.mod.kin hk ?_ (star1 hp) (by rfl)
  rw [star1 hp]
  show wpAny _ _ (spliced ((false, eval e X.env) :: backTo pos (starEach [] X.env))) _ _ s
  refine Calls.spliced_cons (thn (he.run pins s σ H _ I h) fun u s' ⟨v, H1, I1, r1, q1⟩ => ?_)
  obtain ⟨f, l, params, body, scope, dv, ys, tb, rfl, hl, hlp, hS, hB, hbody, hT⟩ := q1.ex
  obtain rfl : u = Value.ref f := r1
  refine Calls.spliced_nil ⟨I1.kIn, ?_⟩
  have rc : codeAny (model X.prog X.w) X.A (.call (.ref g) ⟨[.ref f], []⟩) (CR C8.CX0 X.stack X.prog X.w H1 s' Q C8.E0) s' := by
    refine LamX.run_ofS (N := Ng) (ps := [a]) (us := [.ref f]) (vs := [.ref f]) lk hcg Sg hr I1.env0 (hb s' [.ref f] I1.kIn rfl) (.cons rfl .nil) rfl fun hr' => ?_
    obtain ⟨t', ht', hq'⟩ := hG f l s' H1 Q (fun E H' Q' => tb E σ H' Q') (fun W pn xe E p1 p2 tk hW => pe_actL (i := 0) rfl rfl (LamC.self I1 hS hB) hl tk hW hr' (fun A outer s H c' hr2 => hbody A outer s H E c' hr2) hNg hva hd hcd) hlp hT
    exact ⟨t', ht'.nox, hq'⟩
  refine wpAny_call (codeAny_mono rc fun r s2 hq => ?_)
  cases r with
  | error e => exact (show False from hq).elim
  | ok fl =>
    cases fl with
    | ret u => exact I1.after hq
    | next => exact False.elim hq
    | brk => exact False.elim hq
    | cont => exact False.elim hq
/-- the k-th lambda of a table has the core c -/
structure LamI (X : Cx) (ca : Ca) (L : Lk) (n : Nat) (k : Nat) (c : CE) : Prop where
  ex : ∃ (params : Arguments) (body : Expr) (scope : Scope) (dv : Option Int) (ys : List Str), (∀ f l, L.lo k f l → LamL (X.env.qual ++ "<lambda>") params body scope (cloFrom X.env.cells scope.names []) dv f l) ∧ LamS2 X.N X.env.scope scope ys ∧ BindD params body scope dv ys ∧ c.isBor = false ∧
    ∀ (A : Around) (outer : List Env) (s : Shared) (H : Hp) (E : XK) (f c' : Addr), Room n (A.deeper (LamX.lamEnv X scope s.heap.objs.size f c')) → SE (LamX.lamCx X A outer s H E scope f c') ca (WO E) L body c
def CA.nth : CA → Nat → Option CE
  | .nil, _ => none
  | .cons e _, 0 => some e
  | .cons _ t, k + 1 => t.nth k
theorem evN_nth {r : Rho} : ∀ {tbl : CA} {k : Nat}, evN L tbl k r = match tbl.nth k with
    | some c => ev L c r
    | none => M.bad
  | .nil, _ => by cases ‹Nat› <;> rfl
  | .cons e t, 0 => rfl
  | .cons e t, k + 1 => evN_nth (tbl := t) (k := k)
theorem wordL_imp {n : Nat} {c : CE} {tbl : CA} (hb : c.isBor = false) (hT : ∀ k e, tbl.nth k = some e → LamI X ca L n k e) {σ : L2.St} {H : Hp} {Q : VK} (h : tD X.K ca W L.pu false (ev L (.wordL c tbl)) σ H Q) :
    tD X.K ca W L.pu c.isBor (ev L c) σ H fun v H1 => LamV X ca n σ H1 v Q := by
  obtain ⟨Mu, al, S, r, he, hs, hg⟩ := h
  refine ⟨Mu, al, S, r, he, hs, Goal.seq (k := fun x => match x.d with
    | .lam k lp => fun S => (open Classical in if lp = L.lo k then (match evN L tbl k r S with
      | .ok o S' => .ok (.v (.tuple [.str Str.empty, o.d])) S'
      | .exc x S' => if x.fs.length = exArity x.c then .ok (.v (wordV x)) S' else .bad
      | .bad => .bad) else .bad)
    | _ => M.bad) mono_out hg fun o S1 al1 v H1 p1 r1 g1 => ?_⟩
  rw [hb] at r1
  have rv := r1.rep p1.st
  generalize o.d = d at rv g1
  cases rv with
  | lam hlp hl =>
    rename_i f k lp l
    dsimp only at g1
    split at g1
    · rename_i e
      subst e
      rw [evN_nth] at g1
      cases q : tbl.nth k with
      | none =>
        rw [q] at g1
        exact g1.elim
      | some c2 =>
        rw [q] at g1
        obtain ⟨params, body, scope, dv, ys, h1, h2, h3, h4, h5⟩ := (hT k c2 q).ex
        refine ⟨f, l, params, body, scope, dv, ys, fun E => tD X.K ca (WO E) L.pu c2.isBor (ev L c2), rfl, h1 f l hlp, fun p hp => (hl p hp).1, h2, h3, fun A outer s H E c' hr => h5 A outer s H E f c' hr, ?_⟩
        exact (word_imp (W := W) h4 ⟨_, al1, S1, r, he.post hs p1, p1.st, g1⟩).2 H1 (LamX.ExtN.refl H1) p1.st.tb
    · exact g1.elim
  | _ => exact g1.elim
/-- _law_word(e) -/
theorem snd_wordL {n : Nat} {sg : Scope} {g B : Addr} {x a fnd en srt nms nme : Str} {b0 : Stmt} {suite : List Stmt} {j j2 k17 : Nat} {p1 p2 p3 p4 p5 p6 p7 p8 p9 p10 p11 p12 p13 p14 p15 p16 p17 p18 p pos : Pos}
    {pg : Arguments} {dV kV doc pm cdv ct oc : Value} {an od : Option Addr} {osl : Array (Option Value)} {e : Expr} {c : CE} {tbl : CA} (hb : c.isBor = false) (hT : ∀ k e, tbl.nth k = some e → LamI X ca L n k e) (hp : plainE e = true) (he : SE X ca W L e c)
    (hgx : Gl X x) (hm : X.mg x = some (.ref g)) (hk : PySem.W.keepIn X.K (.ref g) = true)
    (lk : X.K.lookup g = some ⟨oc, od, .func (PySem.W.fnOf x x pg [.Assign [.Name fnd p1] (.List [] p2) p3, .Try [.Expr (.Call (.Attribute (.Name fnd p4) "append" p5) [.Call (.Name a p6) [] [] p7] [] p8) p9] [.ExceptHandler (some (.Name "ProbeError" p10)) (some en) (b0 :: suite) p11] [] [] p12,
      .Return (some (.Tuple [.Constant (.str ("" : Str)) j p13, .Subscript (.Name fnd p14) (.Constant (.int 0) j2 p15) p16] k17 p17)) p18] sg dV kV doc pm an cdv ct), osl⟩) (hcg : PySem.W.codeIn X.K cdv x = true)
    (hbd : ∀ bg, L2.Binds X.K (PySem.W.fnOf x x pg bg sg dV kV doc pm an cdv ct) [a] []) (Sg : FnScope [a, fnd, en, srt, nms, nme] [a] sg)
    (hme : X.mg "ProbeError" = some (.ref B)) (hex : ∀ c, PySem.W.exmOne X.K (.ref (ca.cls c)) (.ref B) = some true)
    (h0 : nmB [a, fnd, en, srt, nms, nme] sg 0 a = true) (h1 : nmB [a, fnd, en, srt, nms, nme] sg 1 fnd = true) (h1' : loL [a, fnd, en, srt, nms, nme] sg 1 fnd = true) (h2 : loL [a, fnd, en, srt, nms, nme] sg 2 en = true) (hg : glB sg "ProbeError" = true)
    (hl : (p5.endLine == p8.line) = true)
    (HS : ∀ (s : Shared) (H : Hp) (ca' : Ca) (M0 : Addr → Prop) (c : Ec) (fs : List Pb.D) (ad : Addr) (oe : Obj) (cv : Value) (d : Option Addr) (pn : List (Addr × Obj)), SuX ca.cls ca' c fs cv d oe →
      SB ((cxOf C8.CX0 X.prog X.w X.K X.mg X.base [a, fnd, en, srt, nms, nme] x sg g cdv X.A X.stack s H C8.E0).suite ad ((ad, oe) :: pn)) ca' (fun _ _ _ => False) M0 Lw (b0 :: suite) (wordB c ad fs))
    (hr : Room (n + 2) X.A) (hdb : (x == ("__debug__" : Str)) = false := by decide) :
    SE X ca W L (.Call (.Name x p) [e] [] pos) (.wordL c tbl) :=
  imE (pe_callv (Ng := [a, fnd, en, srt, nms, nme]) hgx hm hk lk hcg (hbd _) Sg rfl (nmB_ok h0).2.1 (word_gives hme hex Sg.nd h0 h1 h1' h2 hg hl HS) hr he hp hdb (nmB_ok h0).2.2.1 (nmB_ok h0).2.2.2) fun σ H Q h => wordL_imp hb hT h
end
end Pb
end

section
set_option Elab.async false
set_option linter.all false
set_option maxRecDepth 100000
set_option maxHeartbeats 2000000
/-! What the head tells of exceptions; raise and words as the printed derivations use them. -/
namespace Pb
open PySem PySem.Spec PyProof.Rows L2
/-- the class of an exception -/
def ecAt (K : PySem.W.Frag) (c : Ec) : Addr := He.ga K (ecName c)
def ecs : List Ec := [.badPlan, .badAnswers, .badLot, .badCount, .badChances, .noLot, .badTree, .badDeed, .halted, .badText]
theorem ecs_all (c : Ec) : c ∈ ecs := by cases c <;> decide
/-- all that is asked of the classes by words -/
def wfB (K : PySem.W.Frag) : Bool := ecs.all fun c => excB K (ecAt K c) && (xfB K (ecAt K c) && (decide (PySem.W.kitOne K (.ref (ecAt K c)) (.type "ValueError") = some true) && (decide (PySem.W.exmOne K (.ref (ecAt K c)) (.ref (He.ga K "ProbeError")) = some true) &&
  ((ecs.all fun k => decide (PySem.W.kitOne K (.ref (ecAt K c)) (.ref (ecAt K k)) = some (isE c k))) && ((exNames c).all fun nm => decide (PySem.W.findIn K (.ref (ecAt K c)) nm = some none))))))
theorem wfB_ok {K : PySem.W.Frag} (h : wfB K = true) : WF K (ecAt K) ∧ ∀ c, PySem.W.exmOne K (.ref (ecAt K c)) (.ref (He.ga K "ProbeError")) = some true := by
  unfold wfB at h
  rw [List.all_eq_true] at h
  have key : ∀ c, _ := fun c => h c (ecs_all c)
  simp only [Bool.and_eq_true, decide_eq_true_eq, List.all_eq_true] at key
  exact ⟨⟨fun c => excB_ok (key c).1, fun c => xfB_ok (key c).2.1, fun c k => (key c).2.2.2.2.1 k (ecs_all k), fun c => (key c).2.2.1, fun c nm hn => (key c).2.2.2.2.2 nm hn⟩, fun c => (key c).2.2.2.1⟩
/-- raise of a class without an __init__ of its own -/
structure Rz0 (K : PySem.W.Frag) (mg : Str → Option Value) (c : Ec) : Prop where
  m : mg (ecName c) = some (.ref (ecAt K c))
  q : PySem.W.excIn K (ecAt K c) He.veBase "ValueError.__new__" = true
  k : PySem.W.keepIn K (.ref (ecAt K c)) = true
  b : PySem.W.subIn K (.ref (ecAt K c)) (.type "BaseException") = some true
  t : PySem.W.typeIn K (.ref (ecAt K c)) = some (.type "type")
def rz0B (K : PySem.W.Frag) (c : Ec) : Bool := PySem.W.excIn K (ecAt K c) He.veBase "ValueError.__new__" && (PySem.W.keepIn K (.ref (ecAt K c)) && (decide (PySem.W.subIn K (.ref (ecAt K c)) (.type "BaseException") = some true) && decide (PySem.W.typeIn K (.ref (ecAt K c)) = some (.type "type"))))
theorem rz0B_ok {K : PySem.W.Frag} {mg : Str → Option Value} {c : Ec} (m : mg (ecName c) = some (.ref (ecAt K c))) (h : rz0B K c = true) : Rz0 K mg c := by
  unfold rz0B at h
  simp only [Bool.and_eq_true, decide_eq_true_eq] at h
  exact ⟨m, h.1, h.2.1, h.2.2.1, h.2.2.2⟩
/-- raise of a class with an __init__ that takes one value -/
structure Rz1 (K : PySem.W.Frag) (mg : Str → Option Value) (c : Ec) : Prop where
  m : mg (ecName c) = some (.ref (ecAt K c))
  mkx : ∃ (fI : Addr) (fd : FuncData) (nv nm : Str) (fmt : Bool), exNames c = [nm] ∧ fmt = decide (c ≠ .badTree) ∧ OexC K (ecAt K c) ∧ PySem.W.findIn K (.ref (ecAt K c)) "__init__" = some (some (.ref fI)) ∧ PySem.W.typeIn K (.ref fI) = some (.type "function") ∧
    (∀ (P : Program) (w : World) (base : Heap), FnOk P w K mg base (L2.CX P w) 1 fI fd ["self", nv] (spI (ecAt K c) nm fmt)) ∧ Binds K fd ["self", nv] []
/-- the Bool part: C the class, nm its attribute -/
def rz1B (K : PySem.W.Frag) (c : Ec) (nm : Str) : Bool := oexB K (ecAt K c) && (decide (PySem.W.findIn K (.ref (ecAt K c)) "__init__" = some (some (.ref (He.fAd K (ecName c, some "__init__"))))) && (decide (PySem.W.typeIn K (.ref (He.fAd K (ecName c, some "__init__"))) = some (.type "function")) &&
  decide (PySem.W.findIn K (.ref (ecAt K c)) nm = some none)))
def iniB (K : PySem.W.Frag) (B : Addr) : Bool := decide (PySem.W.specialIn K (.ref B) "__getattribute__" = some (some (.builtin "type.__getattribute__"))) && (PySem.W.readsIn K B (.type "type") && (match PySem.W.findCls K (.ref B) (.type "type") "__init__" with | some (.val (.builtin m)) => m == "ValueError.__init__" | _ => false))
theorem iniB_ok {K : PySem.W.Frag} {B : Addr} (h : iniB K B = true) : InI K B := by
  unfold iniB at h
  simp only [Bool.and_eq_true, decide_eq_true_eq] at h
  obtain ⟨h1, h2, h3⟩ := h
  refine ⟨h1, h2, ?_⟩
  split at h3
  · rename_i m e
    rw [e, beq_iff_eq.mp h3]
  · cases h3
section
variable {K : PySem.W.Frag} {mg : Str → Option Value} {c : Ec} {qual nm nv msg : Str} {fd : FuncData} {params : Arguments} {body : List Stmt} {sc : Scope} {B : Addr} {j : Nat}
def iniScB (sc : Scope) (nv : Str) : Bool := decide (sc.names.lookup ("ProbeError" : Str) = some .globalImplicit) && decide (sc.names.lookup ("self" : Str) = some .local) && decide (sc.names.lookup nv = some .local) && !(nv == ("__debug__" : Str)) && !(nv == ("__classdict__" : Str))
theorem rz1_F (m : mg (ecName c) = some (.ref (ecAt K c))) (h : rz1B K c nm = true) (hn : exNames c = [nm]) (hc : c ≠ .badTree) (hm : mg ("ProbeError" : Str) = some (.ref B)) (hB : iniB K B = true) (F : FunD K "__init__" qual params body sc [] [] (He.fAd K (ecName c, some "__init__")) fd)
    (S : FnScope ["self", nv] ["self", nv] sc) (hs : iniScB sc nv = true) (hmsg : msg.length ≤ 1000) {p1 p2 p3 p4 p5 p6 p7 p8 p9 p10 p11 p12 p13 : Pos}
    (hbd : body = [.Expr (.Call (.Attribute (.Name "ProbeError" p1) "__init__" p2) [.Name "self" p3, .JoinedStr [.Constant (.str msg) j p4, .FormattedValue (.Name nv p5) (-1) none p6] p7] [] p8) p9, .Assign [.Attribute (.Name "self" p10) nm p11] (.Name nv p12) p13])
    (hcl : ∀ env, eval (.Call (.Attribute (.Name "ProbeError" p1) "__init__" p2) [.Name "self" p3, .JoinedStr [.Constant (.str msg) j p4, .FormattedValue (.Name nv p5) (-1) none p6] p7] [] p8) env = (do
      let o ← eval (.Name "ProbeError" p1) env
      standAt p2.atName
      let (g, fst) ← holding [o] (getMethod o "__init__" (do return (← importBound (.Name "ProbeError" p1) env).getD true))
      callWith p8 g fst (backTo p8 (starEach [.Name "self" p3, .JoinedStr [.Constant (.str msg) j p4, .FormattedValue (.Name nv p5) (-1) none p6] p7] env)) (backToKw p8 (keywordEach [] env))))
    (hb : ∀ (kV doc pm : Value) (an : Option Addr) (cdv ct : Value) (us : List Value), us.length = 2 → bindArgs (PySem.W.fnOf "__init__" qual params body sc .none kV doc pm an cdv ct) ⟨us, []⟩ = pure ((["self", nv] : List Str).zip us)) : Rz1 K mg c := by
  unfold rz1B at h
  unfold iniScB at hs
  simp only [Bool.and_eq_true, decide_eq_true_eq, Bool.not_eq_true'] at h hs
  obtain ⟨h1, h2, h3, h4⟩ := h
  obtain ⟨⟨⟨⟨s1, s2⟩, s3⟩, s4⟩, s5⟩ := hs
  exact ⟨m, _, fd, nv, nm, true, hn, by simp [hc], oexB_ok h1, h2, h3, fun P w base => fn_iniF (n := 0) F S hm (iniB_ok hB) (oexB_ok h1) h4 hmsg (fun X e => by show X.env.scope.names.lookup _ = _; rw [e]; exact s1) (.inl s2) (.inl s3) s4 s5 hcl hbd, FunD.bindsN F hb⟩
theorem rz1_C (m : mg (ecName c) = some (.ref (ecAt K c))) (h : rz1B K c nm = true) (hn : exNames c = [nm]) (hc : c = .badTree) (hm : mg ("ProbeError" : Str) = some (.ref B)) (hB : iniB K B = true) (F : FunD K "__init__" qual params body sc [] [] (He.fAd K (ecName c, some "__init__")) fd)
    (S : FnScope ["self", nv] ["self", nv] sc) (hs : iniScB sc nv = true) {p1 p2 p3 p4 p8 p9 p10 p11 p12 p13 : Pos}
    (hbd : body = [.Expr (.Call (.Attribute (.Name "ProbeError" p1) "__init__" p2) [.Name "self" p3, .Constant (.str msg) j p4] [] p8) p9, .Assign [.Attribute (.Name "self" p10) nm p11] (.Name nv p12) p13])
    (hcl : ∀ env, eval (.Call (.Attribute (.Name "ProbeError" p1) "__init__" p2) [.Name "self" p3, .Constant (.str msg) j p4] [] p8) env = (do
      let o ← eval (.Name "ProbeError" p1) env
      standAt p2.atName
      let (g, fst) ← holding [o] (getMethod o "__init__" (do return (← importBound (.Name "ProbeError" p1) env).getD true))
      callWith p8 g fst (backTo p8 (starEach [.Name "self" p3, .Constant (.str msg) j p4] env)) (backToKw p8 (keywordEach [] env))))
    (hb : ∀ (kV doc pm : Value) (an : Option Addr) (cdv ct : Value) (us : List Value), us.length = 2 → bindArgs (PySem.W.fnOf "__init__" qual params body sc .none kV doc pm an cdv ct) ⟨us, []⟩ = pure ((["self", nv] : List Str).zip us)) : Rz1 K mg c := by
  unfold rz1B at h
  unfold iniScB at hs
  simp only [Bool.and_eq_true, decide_eq_true_eq, Bool.not_eq_true'] at h hs
  obtain ⟨h1, h2, h3, h4⟩ := h
  obtain ⟨⟨⟨⟨s1, s2⟩, s3⟩, s4⟩, s5⟩ := hs
  exact ⟨m, _, fd, nv, nm, false, hn, by simp [hc], oexB_ok h1, h2, h3, fun P w base => fn_iniC (n := 0) F S hm (iniB_ok hB) (oexB_ok h1) h4 (fun X e => by show X.env.scope.names.lookup _ = _; rw [e]; exact s1) (.inl s2) (.inl s3) s4 s5 hcl hbd, FunD.bindsN F hb⟩
end
section
variable {X : Cx} {ca : Ca} {Ex : XK} {M0 : Addr → Prop} {L : Lk} {W : WX} {pos cpos np p2 : Pos} {n : Nat} {k : Ec} {x : Str}
theorem g_raise0 {m : Str} {j : Nat} (kc : Ctx X (WO Ex) n) (hc : X.calm = true) (T : Rz0 X.K X.mg k) (hx : ecName k = x) (hg : glB X.env.scope x = true) (hca : ca.cls k = ecAt X.K k) (hn : exNames k = []) :
    SS X ca Ex M0 L (.Raise (some (.Call (.Name x np) [.Constant (.str m) j p2] [] cpos)) none pos) (.raise k .nil) := by
  subst hx
  exact ss_raise0 hc kc.tk T.q T.m T.k T.b T.t (glB_ok hg).1 hca hn (glB_ok hg).2.1
theorem g_raise1 {e : Expr} {c : CE} (kc : Ctx X (WO Ex) n) (hr : Room (3 * n + 2) X.A) (hc : X.calm = true) (T : Rz1 X.K X.mg k) (hx : ecName k = x) (hg : glB X.env.scope x = true) (hca : ca.cls k = ecAt X.K k) (hb : c.isBor = false) (hp : plainE e = true) (he : SE X ca (WO Ex) L e c) :
    SS X ca Ex M0 L (.Raise (some (.Call (.Name x np) [e] [] cpos)) none pos) (.raise k (.cons c .nil)) := by
  subst hx
  obtain ⟨fI, fd, nv, nm, fmt, h1, h2, h3, h4, h5, h6, h7⟩ := T.mkx
  exact ss_raise1 (n := 1) hc kc.tk ⟨h3, h4, h5, h6 _ _ _, h7⟩ (hr.mono (by omega)) T.m (glB_ok hg).1 hca h1 h2 (glB_ok hg).2.1 hb (ga_cons hp he sa_nil) (star1 hp)
theorem snd_neg {a : Expr} {c : CE} (ha : SE X ca W L a c) : SE X ca W L (.UnaryOp .USub a pos) (.bin .sub (.lit (.int 0)) c) := by
  refine imE (pe_un un_neg ha) fun σ H Q h => ?_
  obtain ⟨Mu, al, S, r, he, hs, hg⟩ := h
  have hg : Goal X.K ca L.pu _ Mu al S H (ROut X.K false) ((ev L c r >>= fun y => ofOpt (binV .sub (.int 0) y.d)) S) Q := hg
  refine ⟨Mu, al, S, r, he, hs, Goal.seq mono_out hg fun o S1 al1 v1 H1 p1 r1 g1 => ?_⟩
  have r1 := r1.repB p1.st
  generalize o.d = d at r1 g1
  cases d with
  | int i =>
    cases r1.int
    refine ⟨i, rfl, ?_⟩
    have g2 : Goal X.K ca L.pu _ _ al1 S1 H1 (ROut X.K false) (.ok (.v (.int (0 - i))) S1) Q := g1
    have e : (0 : Int) - i = -i := by omega
    rw [e] at g2
    exact Goal.val g2 p1.st (.int _)
  | _ => exact g1.elim
/-! words -/
/-- what is known of _law_word: its text and how its suite is walked -/
structure WordD (P : Program) (w : World) (K : PySem.W.Frag) (mg : Str → Option Value) (base : Heap) (cls : Ec → Addr) (x a fnd en srt nms nme : Str) : Prop where
  ex : ∃ (sg : Scope) (g B : Addr) (pg : Arguments) (fd : FuncData) (b0 : Stmt) (suite : List Stmt) (j j2 k17 : Nat) (p1 p2 p3 p4 p5 p6 p7 p8 p9 p10 p11 p12 p13 p14 p15 p16 p17 p18 : Pos),
    FunD K x x pg [.Assign [.Name fnd p1] (.List [] p2) p3, .Try [.Expr (.Call (.Attribute (.Name fnd p4) "append" p5) [.Call (.Name a p6) [] [] p7] [] p8) p9] [.ExceptHandler (some (.Name "ProbeError" p10)) (some en) (b0 :: suite) p11] [] [] p12,
      .Return (some (.Tuple [.Constant (.str ("" : Str)) j p13, .Subscript (.Name fnd p14) (.Constant (.int 0) j2 p15) p16] k17 p17)) p18] sg [] [] g fd ∧ mg x = some (.ref g) ∧
    (∀ (bg : List Stmt) (kV doc pm : Value) (an : Option Addr) (cdv ct : Value) (us : List Value), us.length = 1 → bindArgs (PySem.W.fnOf x x pg bg sg .none kV doc pm an cdv ct) ⟨us, []⟩ = pure (([a] : List Str).zip us)) ∧ FnScope [a, fnd, en, srt, nms, nme] [a] sg ∧
    mg "ProbeError" = some (.ref B) ∧ (∀ c, PySem.W.exmOne K (.ref (cls c)) (.ref B) = some true) ∧
    nmB [a, fnd, en, srt, nms, nme] sg 0 a = true ∧ nmB [a, fnd, en, srt, nms, nme] sg 1 fnd = true ∧ loL [a, fnd, en, srt, nms, nme] sg 1 fnd = true ∧ loL [a, fnd, en, srt, nms, nme] sg 2 en = true ∧ glB sg "ProbeError" = true ∧ (p5.endLine == p8.line) = true ∧ (x == ("__debug__" : Str)) = false ∧
    ∀ (cdv : Value) (A : Around) (st : List Env) (s : Shared) (H : Hp) (ca' : Ca) (M0 : Addr → Prop) (c : Ec) (fs : List Pb.D) (ad : Addr) (oe : Obj) (cv : Value) (d : Option Addr) (pn : List (Addr × Obj)), A.units + 200 < cLine → SuX cls ca' c fs cv d oe →
      SB ((cxOf C8.CX0 P w K mg base [a, fnd, en, srt, nms, nme] x sg g cdv A st s H C8.E0).suite ad ((ad, oe) :: pn)) ca' (fun _ _ _ => False) M0 Lw (b0 :: suite) (wordB c ad fs)
theorem g_word {x a fnd en srt nms nme : Str} {c0 P : Addr} {params : Arguments} {body : Expr} {scope : Scope} {c : CE} {p lpos : Pos} (hr : Room (3 * n + 2) X.A) (D : WordD X.prog X.w X.K X.mg X.base ca.cls x a fnd en srt nms nme) (hb : c.isBor = false) (hg : glB X.env.scope x = true)
    (TB : LamX.TabB X.base X.mg c0 P) (hcode : X.env.code = .ref c0) (hmT : (P, X.env.qual ++ "<lambda>") ∈ ca.tabs) (hut : ∀ p ∈ ca.tabs, p.1 = P → p.2 = X.env.qual ++ "<lambda>") (hL : LamX.lamSB X.env.scope scope = true) (hdef : defaultsOf params X.env = ([], []))
    (hbind : ∀ (q : Str) (cl : List (Str × Addr)) (pm cv ctv : Value), bindArgs (PySem.W.kla_fn "<lambda>" q params body scope cl pm cv ctv) ⟨[], []⟩ = pure [])
    (hbody : ∀ (A : Around) (outer : List Env) (s : Shared) (H : Hp) (E : XK) (f c' : Addr), Room (3 * n) (A.deeper (LamX.lamEnv X scope s.heap.objs.size f c')) → SE (LamX.lamCx X A outer s H E scope f c') ca (WO E) L body c) :
    SE X ca W L (.Call (.Name x p) [.Lambda params body scope lpos] [] pos) (.word c) := by
  obtain ⟨sg, g, B, pg, fd, b0, suite, j, j2, k17, p1, p2, p3, p4, p5, p6, p7, p8, p9, p10, p11, p12, p13, p14, p15, p16, p17, p18, F, h1, h2, h3, h4, h5, h6, h7, h8, h9, h10, h11, h12, h13⟩ := D.ex
  have hk := F.kp
  obtain ⟨oc, od, dV, kV, doc, pm, an, cdv, ct, osl, rfl, lk, hcd, hD, hK⟩ := F.ex
  rcases hD with ⟨_, rfl⟩ | ⟨e, _⟩
  · exact snd_word hb (glB_ok hg).1 h1 hk lk hcd (fun bg => .all (h2 bg kV doc pm an cdv ct)) h3 h4 h5 h6 h7 h8 h9 h10 h11 (fun s H ca' M0 c fs ad oe cv d pn S => h13 cdv X.A X.stack s H ca' M0 c fs ad oe cv d pn (by have := hr.un; omega) S) TB hcode hmT hut hr (LamX.lamS_by hL) hdef hbind hbody h12
  · exact absurd rfl e
theorem g_wordL {x a fnd en srt nms nme : Str} {e : Expr} {c : CE} {tbl : CA} {p : Pos} (hr : Room (3 * n + 2) X.A) (D : WordD X.prog X.w X.K X.mg X.base ca.cls x a fnd en srt nms nme) (hb : c.isBor = false) (hg : glB X.env.scope x = true) (hT : ∀ k e, tbl.nth k = some e → LamI X ca L (3 * n) k e) (hp : plainE e = true) (he : SE X ca W L e c) :
    SE X ca W L (.Call (.Name x p) [e] [] pos) (.wordL c tbl) := by
  obtain ⟨sg, g, B, pg, fd, b0, suite, j, j2, k17, p1, p2, p3, p4, p5, p6, p7, p8, p9, p10, p11, p12, p13, p14, p15, p16, p17, p18, F, h1, h2, h3, h4, h5, h6, h7, h8, h9, h10, h11, h12, h13⟩ := D.ex
  have hk := F.kp
  obtain ⟨oc, od, dV, kV, doc, pm, an, cdv, ct, osl, rfl, lk, hcd, hD, hK⟩ := F.ex
  rcases hD with ⟨_, rfl⟩ | ⟨e, _⟩
  · exact snd_wordL hb hT hp he (glB_ok hg).1 h1 hk lk hcd (fun bg => .all (h2 bg kV doc pm an cdv ct)) h3 h4 h5 h6 h7 h8 h9 h10 h11 (fun s H ca' M0 c fs ad oe cv d pn S => h13 cdv X.A X.stack s H ca' M0 c fs ad oe cv d pn (by have := hr.un; omega) S) hr h12
  · exact absurd rfl e
end
end Pb
end

section
set_option Elab.async false
set_option linter.all false
set_option maxRecDepth 100000
set_option maxHeartbeats 2000000
/-! The lambdas of a def by number; a def that has such; tables told apart. -/
namespace Pb
open PySem PySem.Spec PyProof.Rows L2
structure LamT where
  params : Arguments
  body : Expr
  scope : Scope
/-- the lambdas of an expression, of a statement, in turn -/
def lamsE : Nat → Expr → List LamT
  | 0, _ => []
  | n + 1, e => match e with
    | .Lambda p b s _ => [⟨p, b, s⟩]
    | .Call f as ks _ => lamsE n f ++ (as.flatMap (lamsE n) ++ ks.flatMap fun k => lamsE n k.value)
    | .List es _ => es.flatMap (lamsE n)
    | .Tuple es _ _ => es.flatMap (lamsE n)
    | .BinOp a _ b _ => lamsE n a ++ lamsE n b
    | .Compare a _ bs _ => lamsE n a ++ bs.flatMap (lamsE n)
    | .UnaryOp _ a _ => lamsE n a
    | .BoolOp _ es _ => es.flatMap (lamsE n)
    | .IfExp t a b _ => lamsE n t ++ (lamsE n a ++ lamsE n b)
    | .Subscript a b _ => lamsE n a ++ lamsE n b
    | .Attribute a _ _ => lamsE n a
    | _ => []
def lamsS : Nat → Stmt → List LamT
  | 0, _ => []
  | n + 1, s => match s with
    | .Assign _ e _ => lamsE n e
    | .Expr e _ => lamsE n e
    | .Return (some e) _ => lamsE n e
    | .If t a b _ => lamsE n t ++ (a.flatMap (lamsS n) ++ b.flatMap (lamsS n))
    | .For _ it b _ _ => lamsE n it ++ b.flatMap (lamsS n)
    | .While t b _ _ => lamsE n t ++ b.flatMap (lamsS n)
    | _ => []
def dvOf (p : Arguments) : Option Int := match p.defaults with
  | [.Constant (.int i) _ _] => some i
  | _ => none
def dfB (p : Arguments) : Bool := p.kw_defaults.isEmpty && match p.defaults with
  | [] => true
  | [.Constant (.int _) _ _] => true
  | _ => false
theorem dv_ok {p : Arguments} (h : dfB p = true) : p.kw_defaults = [] ∧ match dvOf p with
    | none => p.defaults = []
    | some i => ∃ j q, p.defaults = [.Constant (.int i) j q] := by
  unfold dfB at h
  rw [Bool.and_eq_true] at h
  refine ⟨List.isEmpty_iff.mp h.1, ?_⟩
  have h2 := h.2
  unfold dvOf
  split at h2
  · rename_i e
    rw [e]
  · rename_i i j q e
    rw [e]
    exact ⟨j, q, rfl⟩
  · cases h2
/-- how the lambdas of a frame stand -/
def loF (qual : Str) (cells : List (Str × Addr)) (lams : List LamT) : Nat → Addr → List (Addr × HO) → Prop := fun k f l => ∃ t, lams[k]? = some t ∧ LamL qual t.params t.body t.scope (cloFrom cells t.scope.names []) (dvOf t.params) f l
section
variable {X : Cx} {ca : Ca} {W : WX} {L : Lk} {n k : Nat} {params : Arguments} {body : Expr} {scope : Scope} {pos : Pos} {ys : List Str} {lams : List LamT} {c : CE}
theorem g_lam {c0 P : Addr} (hlo : L.lo = loF (X.env.qual ++ ("<lambda>" : Str)) X.env.cells lams) (TB : LamX.TabB X.base X.mg c0 P) (hcode : X.env.code = .ref c0) (hm : (P, X.env.qual ++ "<lambda>") ∈ ca.tabs) (hu : ∀ p ∈ ca.tabs, p.1 = P → p.2 = X.env.qual ++ "<lambda>")
    (hk : lams[k]? = some ⟨params, body, scope⟩) (hS : lamSB2 X.N X.env.scope scope ys = true) (hd : dfB params = true) : SE X ca W L (.Lambda params body scope pos) (.lamE k) :=
  snd_lam TB hcode hm hu (lamSB2_ok hS) (dv_ok hd).1 (dv_ok hd).2 fun f l h => by
    rw [hlo]
    exact ⟨_, hk, h⟩
theorem g_lamI (hlo : L.lo = loF (X.env.qual ++ ("<lambda>" : Str)) X.env.cells lams) (hk : lams[k]? = some ⟨params, body, scope⟩) (hS : lamSB2 X.N X.env.scope scope ys = true) (hB : BindD params body scope (dvOf params) ys) (hb : c.isBor = false)
    (hbody : ∀ (A : Around) (outer : List Env) (s : Shared) (H : Hp) (E : XK) (f c' : Addr), Room n (A.deeper (LamX.lamEnv X scope s.heap.objs.size f c')) → SE (LamX.lamCx X A outer s H E scope f c') ca (WO E) L body c) : LamI X ca L n k c :=
  ⟨params, body, scope, dvOf params, ys, fun f l h => by
    rw [hlo] at h
    obtain ⟨t, e, h⟩ := h
    rw [hk] at e
    cases e
    exact h, lamSB2_ok hS, hB, hb, hbody⟩
/-- the context of a lambda's body -/
theorem ctx_lam {A : Around} {outer : List Env} {s : Shared} {H : Hp} {E : XK} {f c' : Addr} (hr : Room (3 * n) (A.deeper (LamX.lamEnv X scope s.heap.objs.size f c'))) : Ctx (LamX.lamCx X A outer s H E scope f c') (WO E) n :=
  ⟨takes_of (X := LamX.lamCx X A outer s H E scope f c') rfl rfl rfl rfl, hr⟩
end
theorem tab_uniq {l : List (Addr × Str)} (h : (l.map (·.1)).Nodup) {p q : Addr × Str} (hp : p ∈ l) (hq : q ∈ l) (e : p.1 = q.1) : p = q := by
  induction l with
  | nil => cases hp
  | cons x l ih =>
    rw [List.map_cons, List.nodup_cons] at h
    obtain ⟨h1, h2⟩ := h
    rcases List.mem_cons.mp hp with e1 | e1 <;> rcases List.mem_cons.mp hq with e2 | e2
    · rw [e1, e2]
    · exact absurd (List.mem_map.mpr ⟨q, e2, by rw [← e, e1]⟩) h1
    · exact absurd (List.mem_map.mpr ⟨p, e1, by rw [e, e2]⟩) h1
    · exact ih h2 e1 e2
section
variable {P : Program} {w : World} {K : PySem.W.Frag} {mg : Str → Option Value} {base : Heap} {ca : Ca} {n : Nat} {x qual : Str} {fn : Fn} {f : Addr} {fd : FuncData} {N ps : List Str} {params : Arguments} {body : List Stmt} {sc : Scope} {dvs : List V} {kws : List (Str × V)} {d : FD}
/-- a def with lambdas of its own: how they stand hangs on the frame -/
theorem fn_mkL {T : (Nat → Addr → List (Addr × HO) → Prop) → Tb} (F : FunD K x qual params body sc dvs kws f fd) (S : FnScope N ps sc) (hlo : ∀ l, (T l).lo = l) (hpr : ∀ l, (T l).pr fn = none) (hfd : ∀ l, (T l).fd fn = some d) (hnp : d.np = ps.length) (hns : d.ns = N.length)
    (hb : ∀ (cdv : Value) (A : Around) (outer : List Env) (s : Shared) (H : Hp) (E : XK), fd.code = cdv → Room (3 * n + 2) (A.deeper (envOfC qual sc s.heap.objs.size f cdv)) →
      ∃ lo, ∀ M0 : Addr → Prop, SB (cxD P w K mg base N qual sc f cdv A outer s H E) ca E M0 ⟨d.pu, callN (T lo) n d.pu, callN (T lo) n true, (T lo).lo⟩ body d.body) :
    FnOk P w K mg base (L2.CX P w) (3 * (n + 1)) f fd ps (fun vs H Q E => vs.length = ps.length ∧ ∀ lo, spF K ca d.pu (callN (T lo) (n + 1) d.pu fn) vs H Q E) := by
  have hrun : ∀ lo, callN (T lo) (n + 1) d.pu fn = runF ⟨d.pu, callN (T lo) n d.pu, callN (T lo) n true, (T lo).lo⟩ d := fun lo => by
    funext as
    show (match (T lo).pr fn with
    | some (q, g) => if (d.pu && !q) = true then M.bad else g as
    | none => match (T lo).fd fn with
      | some d' => if (d.pu && !d'.pu) = true then M.bad else runF ⟨d'.pu, callN (T lo) n d'.pu, callN (T lo) n true, (T lo).lo⟩ d' as
      | none => M.bad) = _
    rw [hpr lo]
    show (match (T lo).fd fn with
      | some d' => if (d.pu && !d'.pu) = true then M.bad else runF ⟨d'.pu, callN (T lo) n d'.pu, callN (T lo) n true, (T lo).lo⟩ d' as
      | none => M.bad) = _
    rw [hfd lo]
    show (if (d.pu && !d.pu) = true then M.bad else runF ⟨d.pu, callN (T lo) n d.pu, callN (T lo) n true, (T lo).lo⟩ d as) = _
    rw [if_neg (by cases d.pu <;> simp)]
  show FnOk P w K mg base (L2.CX P w) (3 * n + 2 + 1) f fd ps _
  obtain ⟨oc, od, dV, kV, doc, pm, an, cdv, ct, osl, rfl, lk, hcd, _, _⟩ := F.ex
  refine fn_of lk hcd S (fun vs H Q E h => h.1) fun A outer s H vs Q E hr h => ?_
  obtain ⟨lo, hbo⟩ := hb cdv A outer s H E rfl hr
  have h2 := h.2 lo
  rw [hrun lo] at h2
  obtain ⟨Mu, al, S0, ds, hr', hs, hg⟩ := h2
  refine ⟨_, hbo Mu, fun _ => False, al, S0, start0 d.ns ds, start_rep hs hr' hns, ?_, ?_⟩
  · rw [muO_none hs.mu]
    exact hs
  · unfold runF at hg
    split at hg
    · have hg : Goal K ca d.pu E Mu al S0 H (ROut K false) (M.bind (exB ⟨d.pu, callN (T lo) n d.pu, callN (T lo) n true, (T lo).lo⟩ d.body (start0 d.ns ds)) (fun z => match z with
          | .nx _ => pure (.v .non)
          | .rt o => pure o) S0) Q := hg
      unfold M.bind at hg
      cases q : exB ⟨d.pu, callN (T lo) n d.pu, callN (T lo) n true, (T lo).lo⟩ d.body (start0 d.ns ds) S0 with
      | bad => rw [q] at hg; exact hg
      | exc x S' =>
        rw [q] at hg
        exact fun cls dx H' O' al' st e => hg cls dx H' al' st.post e
      | ok fl S' =>
        rw [q] at hg
        cases fl with
        | nx r' => exact fun σ' H' O' al' st e => hg .non H' al' st.post (OutB.of .non)
        | rt o =>
          refine fun v H' O' al' st e => hg v H' al' st.post (OutB.of ?_)
          cases o with
          | v dd => exact e
          | own es =>
            obtain ⟨p', xs, h1, h2, h3, h4, h5, h6⟩ := e
            exact ⟨p', xs, h1, h2.elim id False.elim, fun z => z.elim h3 h4, h5, h6⟩
    · exact hg.elim
end
end Pb
end

section
set_option Elab.async false
set_option linter.all false
set_option maxRecDepth 100000
set_option maxHeartbeats 2000000
/-! Keys of pairs: (len(p[0]), p[0]); (0 - p[1], len(p[0]), p[0]). -/
namespace Pb
open PySem PySem.Spec PyProof.Rows L2
section
variable {prog : Program} {w : World} {A : Around} {env : Env} {h0 : Heap}
theorem hp_idx {e : Expr} {i : Nat} {k j : Nat} {p pos : Pos} {items : Array Value} {t : Addr} {x : Value} (ht : IsTup h0 t items) (hi : (i : Int) < 2 ^ 62) (hx : items[i]? = some x) (h : HP prog w A env h0 e (fun u _ => u = .ref t))
    (hs : ∀ o i', subscripted (.Constant (.int (i : Nat)) k p) false o i' = operate [o, i'] (getItem o i')) : HP prog w A env h0 (.Subscript e (.Constant (.int (i : Nat)) k p) pos) (fun u _ => u = x) := by
  intro s kk
  refine Subscript_ (wpAny_mono (h s kk) (fun u s1 hq => ?_) fun _ _ z => z)
  obtain ⟨h1, t1, rfl, k1, rfl⟩ := hq
  refine wpAny_Constant_int ?_
  have hlt : i < items.size := (Array.getElem?_eq_some_iff.mp hx).1
  have ht1 : IsTup h1 t items := ht.keeps fun b o q => k1 b o (kk b o q)
  refine subscriptTail_builtinR (x := x) (T := "tuple") ht1.typeIs slot_tuple_getitem.lookup
    (getItem_tuple (j := i) (Q := fun r s' => r = x ∧ ∃ h' tk, s' = { s with heap := h', toks := tk } ∧ (∀ b o, s.heap.get? b = some o → h'.get? b = some o) ∧ r = x) ht1 (by omega) (by omega) ?_ hx ⟨rfl, h1, _, rfl, k1, rfl⟩) (hs _ _) |> fun z => wpAny_mono z (fun r s' q => q) fun _ _ z => z
  have n0 : ¬ ((i : Int) < 0) := by omega
  unfold seqIndex?
  simp [n0, hlt]
theorem hp_sub0 {e : Expr} {j : Nat} {p pos : Pos} {i : Int} (h : HP prog w A env h0 e (fun u _ => ∃ tk, u = .int i tk)) : HP prog w A env h0 (.BinOp (.Constant (.int 0) j p) .Sub e pos) (fun u _ => ∃ tk, u = .int (0 - i) tk) := by
  intro s kk
  refine wpAny_BinOp (wpAny_Constant_int (wpAny_mono (h _ fun b o q => kk b o q) (fun u s1 hq => ?_) fun _ _ z => z))
  obtain ⟨h1, t1, rfl, k1, tk, rfl⟩ := hq
  exact sub_int ⟨_, _, rfl, k1, _, rfl⟩
theorem hp_tup3 {e1 e2 e3 : Expr} {kk : Nat} {pos : Pos} {d1 d2 d3 : PyData} {P1 P2 P3 : Value → Heap → Prop} (p1 : plainE e1 = true) (p2 : plainE e2 = true) (p3 : plainE e3 = true) (h1 : HP prog w A env h0 e1 P1) (h2 : HP prog w A env h0 e2 P2) (h3 : HP prog w A env h0 e3 P3)
    (r1 : ∀ v h h', (∀ b o, h0.get? b = some o → h.get? b = some o) → (∀ b o, h.get? b = some o → h'.get? b = some o) → P1 v h → Reads h' v d1 []) (r2 : ∀ v h h', (∀ b o, h0.get? b = some o → h.get? b = some o) → (∀ b o, h.get? b = some o → h'.get? b = some o) → P2 v h → Reads h' v d2 [])
    (r3 : ∀ v h h', (∀ b o, h0.get? b = some o → h.get? b = some o) → (∀ b o, h.get? b = some o → h'.get? b = some o) → P3 v h → Reads h' v d3 []) :
    HP prog w A env h0 (.Tuple [e1, e2, e3] kk pos) (fun u h' => Reads h' u (.tuple [d1, d2, d3]) []) := by
  intro s k
  refine wpAny_Tuple_spliced ?_
  rw [star1 p1, star1 p2, star1 p3]
  show wpAny _ _ (spliced ((false, eval e1 env) :: (false, eval e2 env) :: (false, eval e3 env) :: backTo pos (starEach [] env))) _ _ s
  refine Calls.spliced_cons (wpAny_mono (h1 s k) (fun u s1 hq => ?_) fun _ _ z => z)
  obtain ⟨g1, t1, rfl, k1, q1⟩ := hq
  have k01 : ∀ b o, h0.get? b = some o → g1.get? b = some o := fun b o q => k1 b o (k b o q)
  refine Calls.spliced_cons (wpAny_mono (h2 { s with heap := g1, toks := t1 } k01) (fun u2 s2 hq => ?_) fun _ _ z => z)
  obtain ⟨g2, t2, rfl, k2, q2⟩ := hq
  have k02 : ∀ b o, h0.get? b = some o → g2.get? b = some o := fun b o q => k2 b o (k01 b o q)
  refine Calls.spliced_cons (wpAny_mono (h3 { s with heap := g2, toks := t2 } k02) (fun u3 s3 hq => ?_) fun _ _ z => z)
  obtain ⟨g3, t3, rfl, k3, q3⟩ := hq
  have k03 : ∀ b o, h0.get? b = some o → g3.get? b = some o := fun b o q => k3 b o (k02 b o q)
  refine Calls.spliced_nil ⟨by show 3 ≤ sizeLine; rw [sizeLine_eq]; omega, _, t3, rfl, fun b o q => Heap.get?_push_of_some _ (k3 b o (k2 b o (k1 b o q))), ?_⟩
  have a1 := r1 u g1 (g3.push { cls := .type "tuple", data := .seq [u, u2, u3].toArray }) k01 (fun b o q => Heap.get?_push_of_some _ (k3 b o (k2 b o q))) q1
  have a2 := r2 u2 g2 (g3.push { cls := .type "tuple", data := .seq [u, u2, u3].toArray }) k02 (fun b o q => Heap.get?_push_of_some _ (k3 b o q)) q2
  have a3 := r3 u3 g3 (g3.push { cls := .type "tuple", data := .seq [u, u2, u3].toArray }) k03 (fun b o q => Heap.get?_push_of_some _ q) q3
  exact .tuple (Heap.get?_push_size _ rfl) rfl rfl (.cons a1 (.cons a2 (.cons a3 .nil)))
end
section
variable {X : Cx} {ca : Ca} {W : WX} {L : Lk} {pos : Pos}
/-- a pair whose first is a lot: what stands -/
theorem pair_at {pins : List (Addr × Obj)} {σ : L2.St} {H : Hp} {s : Shared} {Mu : Addr → Prop} {al : List Addr} {u : Value} {v : V} {xs : List Pb.D} {ns : List Int} {ds : List Pb.D} {h1 : Heap} (I : Inv X pins σ H s) (rv : RelV v u) (rd : Rep X.K Mu al H v (.tuple (.tuple xs :: ds))) (q : D.ints xs = some ns)
    (kp : ∀ b o, s.heap.get? b = some o → h1.get? b = some o) : ∃ (a b : Addr) (its its2 : List Value), u = .ref a ∧ IsTup h1 a its.toArray ∧ its.toArray[0]? = some (.ref b) ∧ IsTup h1 b its2.toArray ∧ IntsAre its2 ns ∧ its2.length = ns.length ∧ (its2.length : Int) < 2 ^ 63 ∧
      (∀ (p : Int) (es : List Pb.D), ds = .int p :: es → ∃ tk, its.toArray[1]? = some (.int p tk)) := by
  obtain ⟨e1, e2⟩ := ints_pys q
  cases rd with
  | tuple h2 h3 h4 =>
    rename_i a ys
    obtain rfl : u = Value.ref a := rv
    obtain ⟨its, ri, ht, hz⟩ := I.tuple (SqT.of h2)
    cases h4 with
    | cons g1 g2 =>
    cases g1 with
    | tuple k2 k3 k4 =>
      rename_i b zs
      obtain ⟨its2, rj, ht2, hz2⟩ := I.tuple (SqT.of k2)
      rw [e2] at k4
      have hI := ints_vals k4 rj
      cases ri with
      | cons r1 r2 =>
        rename_i u1 its'
        obtain rfl : u1 = Value.ref b := r1
        refine ⟨a, b, Value.ref b :: its', its2, rfl, ht.keeps kp, rfl, ht2.keeps kp, hI, hI.length, ?_, fun p es e => ?_⟩
        · have : its2.length = zs.length := rj.length.symm
          rw [sizeLine_eq] at hz2
          omega
        · subst e
          cases g2 with
          | cons m1 m2 =>
            cases m1
            cases r2 with
            | cons n1 n2 =>
              obtain ⟨tk, rfl⟩ := n1
              exact ⟨tk, rfl⟩
/-- (len(y[0]), y[0]) -/
theorem key_fst {y : Str} {scope : Scope} {qual : Str} {cl : List (Str × Addr)} {p1 p2 p3 p4 p5 p6 p7 p8 p9 : Pos} {k1 k2 k5 : Nat} (hk : scope.kind = .function) (hl : scope.names.lookup y = some .local) (hg : scope.names.lookup ("len" : Str) = some .globalImplicit) (hm : X.mg "len" = none) (hd : (y == ("__debug__" : Str)) = false) :
    KeyOk X ca .fst y (.Tuple [.Call (.Name "len" p1) [.Subscript (.Name y p2) (.Constant (.int 0) k1 p3) p4] [] p5, .Subscript (.Name y p6) (.Constant (.int 0) k2 p7) p8] k5 p9) qual scope cl := by
  intro pins σ H s Mu al u v d i h1 A' L f c' I rv rd hi kp hn
  unfold keyI at hi
  split at hi
  · rename_i h; cases h
  · rename_i xs ds _
    cases q : D.ints xs with
    | none => rw [q] at hi; cases hi
    | some ns =>
      obtain ⟨e1, e2⟩ := ints_pys q
      obtain ⟨a, b, its, its2, rfl, ht, hx, ht2, hI, hl2, hzz, _⟩ := pair_at I rv rd q kp
      obtain ⟨mb, b1, b2⟩ := I.mod.blt
      have hkl : xs.length = ns.length := by rw [e2, List.length_map]
      have kof : (PySem.W.envX qual scope L f (.ref c') cl).kindOf y = some .local := hl
      have hv0 : (fun x => [(y, Value.ref a)].reverse.lookup x) y = some (Value.ref a) := by simp [List.lookup]
      have var : ∀ pp, HP X.prog X.w A' (PySem.W.envX qual scope L f (.ref c') cl) h1 (.Name y pp) (fun u _ => u = .ref a) := fun pp => hp_var hk kof hn hv0 hd
      have fst : ∀ pa pb pc kk, HP X.prog X.w A' (PySem.W.envX qual scope L f (.ref c') cl) h1 (.Subscript (.Name y pa) (.Constant (.int 0) kk pb) pc) (fun u _ => u = .ref b) := fun pa pb pc kk => hp_idx (j := 0) (i := 0) ht (by decide) hx (var pa) (fun _ _ => rfl)
      have hsz : its2.toArray.size = ns.length := by rw [List.size_toArray, hl2]
      have len := hp_len (prog := X.prog) (w := X.w) (A := A') (env := PySem.W.envX qual scope L f (.ref c') cl) (np := p1) (pos := p5) (mg := X.mg) (mb := mb) hk hg ((I.mod.glob.keeps I.bk).keeps kp) hm ((b1.keeps I.bk).keeps kp) ((b2 _ (by decide)).trans PySem.boot_len) rfl ht2 (by rw [List.size_toArray]; exact hzz) (fst p2 p3 p4 k1)
      have := hp_tup2 (kk := k5) (pos := p9) (d1 := .int ns.length) (d2 := .tuple (ns.map .int)) rfl rfl len (fst p6 p7 p8 k2) (fun v h h' _ _ q => by
        obtain ⟨tk, rfl⟩ := q
        rw [hsz]
        exact .int _ _) fun v h h' k1 k2 q => by
        subst q
        obtain ⟨o, ho, hc, n, hd⟩ := ht2
        exact .tuple (k2 _ _ (k1 _ _ ho)) hc hd (ints_reads hI)
      show HP _ _ _ _ _ _ (fun u h' => Reads h' u (.tuple [.int xs.length, .tuple (D.pys xs)]) [])
      rw [hkl, e1]
      exact this
  · rename_i h; cases h
  · cases hi
/-- (0 - y[1], len(y[0]), y[0]) -/
theorem key_shr {y : Str} {scope : Scope} {qual : Str} {cl : List (Str × Addr)} {p1 p2 p3 p4 p5 p6 p7 p8 p9 q1 q2 q3 q4 q5 : Pos} {k1 k2 k5 k6 k7 : Nat} (hk : scope.kind = .function) (hl : scope.names.lookup y = some .local) (hg : scope.names.lookup ("len" : Str) = some .globalImplicit) (hm : X.mg "len" = none) (hd : (y == ("__debug__" : Str)) = false) :
    KeyOk X ca .shr y (.Tuple [.BinOp (.Constant (.int 0) k6 q1) .Sub (.Subscript (.Name y q2) (.Constant (.int 1) k7 q3) q4) q5, .Call (.Name "len" p1) [.Subscript (.Name y p2) (.Constant (.int 0) k1 p3) p4] [] p5, .Subscript (.Name y p6) (.Constant (.int 0) k2 p7) p8] k5 p9) qual scope cl := by
  intro pins σ H s Mu al u v d i h1 A' L f c' I rv rd hi kp hn
  unfold keyI at hi
  split at hi
  · rename_i h; cases h
  · rename_i h; cases h
  · rename_i xs z ds _
    cases q : D.ints xs with
    | none => rw [q] at hi; cases hi
    | some ns =>
      obtain ⟨e1, e2⟩ := ints_pys q
      obtain ⟨a, b, its, its2, rfl, ht, hx, ht2, hI, hl2, hzz, hsnd⟩ := pair_at I rv rd q kp
      obtain ⟨tk1, hx1⟩ := hsnd z ds rfl
      obtain ⟨mb, b1, b2⟩ := I.mod.blt
      have hkl : xs.length = ns.length := by rw [e2, List.length_map]
      have kof : (PySem.W.envX qual scope L f (.ref c') cl).kindOf y = some .local := hl
      have hv0 : (fun x => [(y, Value.ref a)].reverse.lookup x) y = some (Value.ref a) := by simp [List.lookup]
      have var : ∀ pp, HP X.prog X.w A' (PySem.W.envX qual scope L f (.ref c') cl) h1 (.Name y pp) (fun u _ => u = .ref a) := fun pp => hp_var hk kof hn hv0 hd
      have fst : ∀ pa pb pc kk, HP X.prog X.w A' (PySem.W.envX qual scope L f (.ref c') cl) h1 (.Subscript (.Name y pa) (.Constant (.int 0) kk pb) pc) (fun u _ => u = .ref b) := fun pa pb pc kk => hp_idx (j := 0) (i := 0) ht (by decide) hx (var pa) (fun _ _ => rfl)
      have snd : HP X.prog X.w A' (PySem.W.envX qual scope L f (.ref c') cl) h1 (.Subscript (.Name y q2) (.Constant (.int 1) k7 q3) q4) (fun u _ => u = .int z tk1) := hp_idx (j := 0) (i := 1) ht (by decide) hx1 (var q2) (fun _ _ => rfl)
      have neg := hp_sub0 (j := k6) (p := q1) (pos := q5) (i := z) (fun s k => wpAny_mono (snd s k) (fun u s1 ⟨h', tk, e, k1, e2⟩ => ⟨h', tk, e, k1, _, e2⟩) fun _ _ z => z)
      have hsz : its2.toArray.size = ns.length := by rw [List.size_toArray, hl2]
      have len := hp_len (prog := X.prog) (w := X.w) (A := A') (env := PySem.W.envX qual scope L f (.ref c') cl) (np := p1) (pos := p5) (mg := X.mg) (mb := mb) hk hg ((I.mod.glob.keeps I.bk).keeps kp) hm ((b1.keeps I.bk).keeps kp) ((b2 _ (by decide)).trans PySem.boot_len) rfl ht2 (by rw [List.size_toArray]; exact hzz) (fst p2 p3 p4 k1)
      have := hp_tup3 (kk := k5) (pos := p9) (d1 := .int (0 - z)) (d2 := .int ns.length) (d3 := .tuple (ns.map .int)) rfl rfl rfl neg len (fst p6 p7 p8 k2) (fun v h h' _ _ q => by
        obtain ⟨tk, rfl⟩ := q
        exact .int _ _) (fun v h h' _ _ q => by
        obtain ⟨tk, rfl⟩ := q
        rw [hsz]
        exact .int _ _) fun v h h' k1 k2 q => by
        subst q
        obtain ⟨o, ho, hc, n, hd⟩ := ht2
        exact .tuple (k2 _ _ (k1 _ _ ho)) hc hd (ints_reads hI)
      show HP _ _ _ _ _ _ (fun u h' => Reads h' u (.tuple [.int (0 - z), .int xs.length, .tuple (D.pys xs)]) [])
      rw [hkl, e1]
      exact this
  · cases hi
theorem g_sortF {n : Nat} {e : Expr} {c : CE} {np kpos lpos p1 p2 p3 p4 p5 p6 p7 p8 p9 : Pos} {k1 k2 k5 : Nat} {params : Arguments} {scope : Scope} {y : Str} {c0 P : Addr} (k : Ctx X W n) (hm : X.mg "sorted" = none) (hml : X.mg "len" = none) (hg : glB X.env.scope "sorted" = true) (hp : plainE e = true)
    (TB : LamX.TabB X.base X.mg c0 P) (hcode : X.env.code = .ref c0) (hmT : (P, X.env.qual ++ "<lambda>") ∈ ca.tabs) (hut : ∀ p ∈ ca.tabs, p.1 = P → p.2 = X.env.qual ++ "<lambda>") (hdef : defaultsOf params X.env = ([], [])) (hl : lamB scope y = true)
    (hbind : ∀ (q : Str) (cl : List (Str × Addr)) (pm cv ctv u : Value), bindArgs (PySem.W.kla_fn "<lambda>" q params (.Tuple [.Call (.Name "len" p1) [.Subscript (.Name y p2) (.Constant (.int 0) k1 p3) p4] [] p5, .Subscript (.Name y p6) (.Constant (.int 0) k2 p7) p8] k5 p9) scope cl pm cv ctv) ⟨[u], []⟩ = pure [(y, u)]) (h : SE X ca W L e c) :
    SE X ca W L (.Call (.Name "sorted" np) [e] [⟨some "key", .Lambda params (.Tuple [.Call (.Name "len" p1) [.Subscript (.Name y p2) (.Constant (.int 0) k1 p3) p4] [] p5, .Subscript (.Name y p6) (.Constant (.int 0) k2 p7) p8] k5 p9) scope lpos, kpos⟩] pos) (.sortk .fst c) := by
  obtain ⟨h1, h2, h3, h4, h5, h6, h7, h8⟩ := lamB_ok hl
  exact snd_sortk (glB_ok hg).1 hm hp h TB hcode hmT hut hdef h1 h2 h3 h4 h5 h6 hbind k.rm fun cl => key_fst h1 h6 h7 hml h8
theorem g_sortR {n : Nat} {e : Expr} {c : CE} {np kpos lpos p1 p2 p3 p4 p5 p6 p7 p8 p9 q1 q2 q3 q4 q5 : Pos} {k1 k2 k5 k6 k7 : Nat} {params : Arguments} {scope : Scope} {y : Str} {c0 P : Addr} (k : Ctx X W n) (hm : X.mg "sorted" = none) (hml : X.mg "len" = none) (hg : glB X.env.scope "sorted" = true) (hp : plainE e = true)
    (TB : LamX.TabB X.base X.mg c0 P) (hcode : X.env.code = .ref c0) (hmT : (P, X.env.qual ++ "<lambda>") ∈ ca.tabs) (hut : ∀ p ∈ ca.tabs, p.1 = P → p.2 = X.env.qual ++ "<lambda>") (hdef : defaultsOf params X.env = ([], [])) (hl : lamB scope y = true)
    (hbind : ∀ (q : Str) (cl : List (Str × Addr)) (pm cv ctv u : Value), bindArgs (PySem.W.kla_fn "<lambda>" q params (.Tuple [.BinOp (.Constant (.int 0) k6 q1) .Sub (.Subscript (.Name y q2) (.Constant (.int 1) k7 q3) q4) q5, .Call (.Name "len" p1) [.Subscript (.Name y p2) (.Constant (.int 0) k1 p3) p4] [] p5, .Subscript (.Name y p6) (.Constant (.int 0) k2 p7) p8] k5 p9) scope cl pm cv ctv) ⟨[u], []⟩ = pure [(y, u)]) (h : SE X ca W L e c) :
    SE X ca W L (.Call (.Name "sorted" np) [e] [⟨some "key", .Lambda params (.Tuple [.BinOp (.Constant (.int 0) k6 q1) .Sub (.Subscript (.Name y q2) (.Constant (.int 1) k7 q3) q4) q5, .Call (.Name "len" p1) [.Subscript (.Name y p2) (.Constant (.int 0) k1 p3) p4] [] p5, .Subscript (.Name y p6) (.Constant (.int 0) k2 p7) p8] k5 p9) scope lpos, kpos⟩] pos) (.sortk .shr c) := by
  obtain ⟨h1, h2, h3, h4, h5, h6, h7, h8⟩ := lamB_ok hl
  exact snd_sortk (glB_ok hg).1 hm hp h TB hcode hmT hut hdef h1 h2 h3 h4 h5 h6 hbind k.rm fun cl => key_shr h1 h6 h7 hml h8
end
end Pb
end

section
set_option Elab.async false
set_option linter.all false
set_option maxRecDepth 100000
set_option maxHeartbeats 2000000
/-! tuple(range(..)), list(range(..)). -/
namespace Pb
open PySem PySem.Spec PyProof.Rows L2
def rgArgs : List V → Option (Int × Int × Int)
  | [.int n] => some (0, n, 1)
  | [.int a, .int b] => some (a, b, 1)
  | [.int a, .int b, .int c] => some (a, b, c)
  | _ => none
def rgN (a b c : Int) : Nat := if a < b then ((b - a - 1) / c + 1).toNat else 0
def rgV3 (a b c : Int) : List V := (List.range (rgN a b c)).map fun (k : Nat) => V.int (a + k * c)
/-- small bounds -/
def RgS (a b c : Int) : Prop := (0 ≤ a ∧ a ≤ 16777216) ∧ (0 ≤ b ∧ b ≤ 16777216) ∧ (0 < c ∧ c ≤ 16777216)
theorem rgS_le {a b c : Int} (h : RgS a b c) : rgN a b c ≤ 16777216 := by
  obtain ⟨⟨a1, a2⟩, ⟨b1, b2⟩, c1, c2⟩ := h
  unfold rgN
  split
  · have : (b - a - 1) / c ≤ b - a - 1 := Int.ediv_le_self _ (by omega)
    omega
  · omega
theorem rgS_size {a b c : Int} (h : RgS a b c) : Builtin.Range.rangeSize a b c = (rgN a b c : Nat) := by
  obtain ⟨⟨a1, a2⟩, ⟨b1, b2⟩, c1, c2⟩ := h
  unfold Builtin.Range.rangeSize rgN
  rw [if_pos (show c > 0 by omega)]
  split
  · have : 0 ≤ (b - a - 1) / c := Int.ediv_nonneg (by omega) (by omega)
    omega
  · rfl
theorem rgS_small {a b c : Int} (h : RgS a b c) : Builtin.Range.small a b c = true := by
  have h1 := rgS_size h
  have h2 := rgS_le h
  obtain ⟨⟨a1, a2⟩, ⟨b1, b2⟩, c1, c2⟩ := h
  unfold Builtin.Range.small
  rw [h1]
  simp only [Builtin.Range.rangeFitsLong, Bool.and_eq_true, Bool.or_eq_true, decide_eq_true_eq, beq_iff_eq, show c > 0 from c1, if_true]
  omega
section
variable {X : Cx} {ca : Ca} {W : WX} {L : Lk} {pos : Pos}
def PRg3 (X : Cx) (e : Expr) (t : L2.St → Hp → (Int → Int → Int → Hp → Prop) → Prop) : Prop :=
  ∀ (pins : List (Addr × Obj)) (s : Shared) (σ : L2.St) (H : Hp) (Q : Int → Int → Int → Hp → Prop), Inv X pins σ H s → t σ H Q →
    wpAny (model X.prog X.w) X.A (eval e X.env) (fun x s' => ∃ r a b c t u v H', x = .ref r ∧ IsRange s'.heap r a b c t u v ∧ Inv X pins σ H' s' ∧ Q a b c H') X.xe s
def tRgA (ta : TA) : L2.St → Hp → (Int → Int → Int → Hp → Prop) → Prop := fun σ H Q => ta σ H fun vs H1 => ∃ a b c, rgArgs vs = some (a, b, c) ∧ c ≠ 0 ∧ c.natAbs < 1073741824 ∧ Q a b c H1
theorem prgA {p : Pos} {e : Expr} {es : List Expr} {ta : TA} (hg : Gl X "range") (hm : X.mg "range" = none) (ha : PA X (e :: es) ta) (hp : (e :: es).all plainE = true) : PRg3 X (.Call (.Name "range" p) (e :: es) [] pos) (tRgA ta) := by
  intro pins s σ H Q I h
  rw [List.all_cons, Bool.and_eq_true] at hp
  refine Call_ (ld_blt I hg hm boot_range (PyProof.Rows.callWith_type1 (thn (ha.run pos pins s σ H _ I h) fun us s1 ⟨vs, H1, I1, r1, a, b, c, e1, h0, h1, q⟩ => ?_) (star1 hp.1) (starN hp.2)))
  unfold rgArgs at e1
  split at e1
  · cases e1
    cases r1 with
    | cons r rr =>
      cases rr
      obtain ⟨t, rfl⟩ := r
      exact call_range_1 ⟨_, 0, _, 1, _, _, _, H1, rfl, IsRange.new _ _ _ _ _ _ _, I1.kept fun b u e => Heap.get?_push_of_some _ e, q⟩
  · cases e1
    cases r1 with
    | cons r rr =>
      cases rr with
      | cons r' rr =>
        cases rr
        obtain ⟨t, rfl⟩ := r
        obtain ⟨t', rfl⟩ := r'
        exact call_range_2 ⟨_, _, _, 1, _, _, _, H1, rfl, IsRange.new _ _ _ _ _ _ _, I1.kept fun b u e => Heap.get?_push_of_some _ e, q⟩
  · cases e1
    cases r1 with
    | cons r rr =>
      cases rr with
      | cons r' rr =>
        cases rr with
        | cons r'' rr =>
          cases rr
          obtain ⟨t, rfl⟩ := r
          obtain ⟨t', rfl⟩ := r'
          obtain ⟨t'', rfl⟩ := r''
          exact call_range_3 h0 ⟨_, _, _, _, _, _, _, H1, rfl, IsRange.new _ _ _ _ _ _ _, I1.kept fun b u e => Heap.get?_push_of_some _ e, q⟩ (.inl (PyProof.noPylong_small h1))
  · cases e1
theorem vals_rg3 {a b c : Int} {acc : Array Value} (h : ItemsOf (fun i v => ∃ t, v = .int (a + i * c) t) acc (rgN a b c)) : Vals (rgV3 a b c) acc.toList := by
  have e : acc.toList.length = rgN a b c := by rw [Array.length_toList]; exact h.1
  unfold rgV3
  rw [← e]
  refine vals_of_get acc.toList _ fun j u hj => ?_
  obtain ⟨t, rfl⟩ := h.2 j u (by rw [← hj, Array.getElem?_toList])
  exact ⟨t, rfl⟩
theorem rgV3_len {a b c : Int} (h : RgS a b c) : (rgV3 a b c).length ≤ sizeLine := by
  unfold rgV3
  rw [List.length_map, List.length_range, sizeLine_eq]
  exact Nat.le_trans (rgS_le h) (by decide)
variable {e : Expr} {te : L2.St → Hp → (Int → Int → Int → Hp → Prop) → Prop}
theorem pe_listR3 {p : Pos} (hc : X.calm = true) (hg : Gl X "list") (hm : X.mg "list" = none) (he : PRg3 X e te) (hp : plainE e = true) : PE X (.Call (.Name "list" p) [e] [] pos) (fun σ H Q => te σ H fun a b c H1 => RgS a b c ∧ ∀ q, H1 q = none → Q (.ref q) (upd H1 q (.lst (rgV3 a b c)))) := by
  refine ⟨fun pins s σ H Q I h => ?_⟩
  refine Call_ (ld_blt I hg hm boot_list (PyProof.Rows.callWith_type1 (args_cons (thn (he pins s σ H _ I h) fun x s1 ⟨r, a, b, c, t, u, v, H1, ex, hr, I1, ok, q⟩ => args_nil ?_) (star1 hp)) (star1 hp)))
  subst ex
  refine call_list_range (n := rgN a b c) (I1.ok.hd hc) hr (rgS_small ok) (rgS_size ok) (Nat.le_trans (rgS_le ok) (by decide)) fun h' tk acc c' hk e' hi => ?_
  refine ⟨.ref s1.heap.objs.size, upd H1 s1.heap.objs.size (.lst (rgV3 a b c)), I1.laid hk (Nat.le_refl _) (show ObjOk X.prog X.w _ _ _ (.lst (rgV3 a b c)) from ⟨rgV3_len ok, acc.toList, c', vals_rg3 hi, ?_⟩), rfl, q _ (I1.hok.fresh (Nat.le_refl _))⟩
  rw [Array.toArray_toList]
  exact e'
theorem pe_tupR3 {p : Pos} (hc : X.calm = true) (hg : Gl X "tuple") (hm : X.mg "tuple" = none) (he : PRg3 X e te) (hp : plainE e = true) : PE X (.Call (.Name "tuple" p) [e] [] pos) (fun σ H Q => te σ H fun a b c H1 => RgS a b c ∧ ∀ q, H1 q = none → Q (.ref q) (upd H1 q (.tup (rgV3 a b c)))) := by
  refine ⟨fun pins s σ H Q I h => ?_⟩
  refine Call_ (ld_blt I hg hm boot_tuple (PyProof.Rows.callWith_type1 (args_cons (thn (he pins s σ H _ I h) fun x s1 ⟨r, a, b, c, t, u, v, H1, ex, hr, I1, ok, q⟩ => args_nil ?_) (star1 hp)) (star1 hp)))
  subst ex
  refine call_tuple_range (n := rgN a b c) (I1.ok.hd hc) hr (rgS_small ok) (rgS_size ok) (Nat.le_trans (rgS_le ok) (by decide)) fun h' tk acc hk hi => ?_
  have I2 : Inv X pins σ H1 { s1 with heap := h', toks := tk } := I1.kept hk
  refine ⟨.ref h'.objs.size, upd H1 h'.objs.size (.tup (rgV3 a b c)), I2.laid (t' := tk) (fun c o e => Heap.get?_push_of_some _ e) (Nat.le_refl _) (show ObjOk X.prog X.w _ _ _ (.tup (rgV3 a b c)) from ⟨rgV3_len ok, acc.toList, vals_rg3 hi, ?_⟩), rfl, q _ (I2.hok.fresh (Nat.le_refl _))⟩
  rw [Array.toArray_toList]
  exact IsTup.new _ _
theorem ints3 {K : PySem.W.Frag} {Mu : Addr → Prop} {al : List Addr} {H : Hp} {vs : List V} {ds xs : List Pb.D} (r : RepBs K Mu al H vs ds) (h : rng3V ds = some xs) : ∃ a b c, rgArgs vs = some (a, b, c) ∧ RgS a b c ∧ xs = (List.range (rgN a b c)).map fun (k : Nat) => D.int (a + k * c) := by
  unfold rng3V at h
  split at h
  · obtain ⟨v, rfl, r1⟩ := r.one
    cases r1.int
    split at h
    · rename_i hz
      cases h
      refine ⟨0, _, 1, rfl, ⟨by omega, hz, by omega⟩, ?_⟩
      congr 1
      · funext k
        rw [Int.mul_one]
      · unfold rgN
        congr 1
        split <;> omega
    · cases h
  · obtain ⟨v, u, rfl, r1, r2⟩ := r.two
    cases r1.int
    cases r2.int
    split at h
    · rename_i hz
      cases h
      refine ⟨_, _, 1, rfl, ⟨hz.1, hz.2, by omega⟩, ?_⟩
      congr 1
      · funext k
        rw [Int.mul_one]
      · unfold rgN
        congr 1
        split <;> omega
    · cases h
  · cases r with
    | cons r1 r =>
      obtain ⟨v, u, rfl, r2, r3⟩ := r.two
      cases r1.int
      cases r2.int
      cases r3.int
      split at h
      · rename_i hz
        cases h
        exact ⟨_, _, _, rfl, hz, rfl⟩
      · cases h
  · cases h
theorem rep_rg {K : PySem.W.Frag} {Mu : Addr → Prop} {al : List Addr} {H : Hp} {a c : Int} : ∀ (l : List Nat), Reps K Mu al H (l.map fun (k : Nat) => V.int (a + k * c)) (l.map fun (k : Nat) => D.int (a + k * c))
  | [] => .nil
  | _ :: l => .cons (.int _) (rep_rg l)
theorem g_rgT {p p2 pos2 : Pos} {e : Expr} {es : List Expr} {as : CA} (hc : X.calm = true) (hmt : X.mg "tuple" = none) (hmr : X.mg "range" = none) (hgt : glB X.env.scope "tuple" = true) (hgr : glB X.env.scope "range" = true) (hp : (e :: es).all plainE = true) (ha : SA X ca W L (e :: es) as) :
    SE X ca W L (.Call (.Name "tuple" p) [.Call (.Name "range" p2) (e :: es) [] pos2] [] pos) (.rgT as) := by
  refine imE (pe_tupR3 hc (glB_ok hgt).1 hmt (prgA (glB_ok hgr).1 hmr ha hp) rfl) fun σ H Q h => ?_
  obtain ⟨Mu, al, S, r, he, hs, hg⟩ := h
  have hg : Goal X.K ca L.pu _ Mu al S H (ROut X.K false) ((evA L as r >>= fun ds => ofOpt (rng3V ds) >>= fun xs => pure (Out.v (.tuple xs))) S) Q := hg
  refine ⟨Mu, al, S, r, he, hs, Goal.seq mono_out hg fun ds S1 al1 vs H1 p1 r1 g1 => ?_⟩
  cases q : rng3V ds with
  | none => rw [q] at g1; exact g1.elim
  | some xs =>
    rw [q] at g1
    obtain ⟨a, b, c, e1, e2, e3⟩ := ints3 r1.1 q
    subst e3
    exact ⟨a, b, c, e1, by have := e2.2.2.1; omega, by have := e2.2.2; omega, e2, fun q' hq => Goal.newTup g1 p1.st (rep_rg _) hq⟩
theorem g_rgL {p p2 pos2 : Pos} {e : Expr} {es : List Expr} {as : CA} (hc : X.calm = true) (hmt : X.mg "list" = none) (hmr : X.mg "range" = none) (hgt : glB X.env.scope "list" = true) (hgr : glB X.env.scope "range" = true) (hp : (e :: es).all plainE = true) (ha : SA X ca W L (e :: es) as) :
    SE X ca W L (.Call (.Name "list" p) [.Call (.Name "range" p2) (e :: es) [] pos2] [] pos) (.rgL as) := by
  refine imE (pe_listR3 hc (glB_ok hgt).1 hmt (prgA (glB_ok hgr).1 hmr ha hp) rfl) fun σ H Q h => ?_
  obtain ⟨Mu, al, S, r, he, hs, hg⟩ := h
  have hg : Goal X.K ca L.pu _ Mu al S H (ROut X.K false) ((evA L as r >>= fun ds => ofOpt (rng3V ds) >>= fun xs => pure (Out.own xs)) S) Q := hg
  refine ⟨Mu, al, S, r, he, hs, Goal.seq mono_out hg fun ds S1 al1 vs H1 p1 r1 g1 => ?_⟩
  cases q : rng3V ds with
  | none => rw [q] at g1; exact g1.elim
  | some xs =>
    rw [q] at g1
    obtain ⟨a, b, c, e1, e2, e3⟩ := ints3 r1.1 q
    subst e3
    exact ⟨a, b, c, e1, by have := e2.2.2.1; omega, by have := e2.2.2; omega, e2, fun q' hq => Goal.newLst g1 p1.st (rep_rg _) hq⟩
end
end Pb
end

section
set_option Elab.async false
set_option linter.all false
set_option maxRecDepth 100000
set_option maxHeartbeats 2000000
/-! The head's facts once more, over the names' reach and the statics. -/
namespace Pb
open PySem PySem.Spec PyProof.Rows L2
def frS (g : Addr → Option Obj) (n : Nat) : PySem.W.Frag := He.frT g (He.asD g n ++ [cStatics])
def obsS (n : Nat) (fa : List He.Fa) (fn : List He.DefD) (ts : List He.Tab) (tf : List He.Defn) (ex : PySem.W.Frag → Bool) (g : Addr → Option Obj) : He.AlX := (He.obsT fa fn ts (frS g n), ex (frS g n) && He.tabsB g tf (frS g n))
theorem saysS_of {n : Nat} {fa : List He.Fa} {fn : List He.DefD} {ts : List He.Tab} {tf : List He.Defn} {ex : PySem.W.Frag → Bool} {w : World} {h : Heap} (e : obsS n fa fn ts tf ex h.get? = He.valX fn ts w) : He.SaysX fa fn ts tf ex w h (frS h.get? n) := by
  have a1 : He.obsT fa fn ts (frS h.get? n) = He.valT fn ts w := congrArg Prod.fst e
  have a2 : (ex (frS h.get? n) && He.tabsB h.get? tf (frS h.get? n)) = true := congrArg Prod.snd e
  rw [Bool.and_eq_true] at a2
  obtain ⟨b1, b2⟩ := a2
  have tab : ∀ q ∈ tf, PySem.W.codeHdIn (frS h.get? n) (He.cT (frS h.get? n) q).1 (He.cT (frS h.get? n) q).2 = true ∧ ∃ o, h.get? (He.cT (frS h.get? n) q).2 = some o ∧ He.emptyTab o = true := fun q hq => by
    have c := List.all_eq_true.mp b2 q hq
    rw [Bool.and_eq_true] at c
    obtain ⟨c1, c2⟩ := c
    refine ⟨c1, ?_⟩
    cases z : h.get? (He.cT (frS h.get? n) q).2 with
    | none => rw [z] at c2; cases c2
    | some o => rw [z] at c2; exact ⟨o, rfl, c2⟩
  refine ⟨a1, b1, fun q hq => (tab q hq).1, fun q hq => ?_, fun q hq => ?_⟩
  · obtain ⟨_, o, z1, z2⟩ := tab q hq
    exact He.frT_none z1 z2
  · obtain ⟨_, o, z1, z2⟩ := tab q hq
    rw [z1, He.emptyTab_eq z2]
def hookS (n : Nat) (fa : List He.Fa) (fn : List He.DefD) (ts : List He.Tab) (tf : List He.Defn) (ex : PySem.W.Frag → Bool) : PySem.W.Hook where
  α := He.AlX
  obs := fun s => obsS n fa fn ts tf ex s.heap.get?
  val := fun w => He.valX fn ts w
  says := fun w h => ∃ K : PySem.W.Frag, K.In h ∧ He.SaysX fa fn ts tf ex w h K
  of := fun _ _ e => ⟨_, He.frT_in, saysS_of e⟩
  keeps := fun _ _ _ ⟨K, hK, c⟩ k => ⟨K, PySem.W.Frag.In.keeps hK k, ⟨c.t, c.more, c.hd, c.out, fun q hq => k _ _ (c.empty q hq)⟩⟩
theorem obsS_eq {n : Nat} {fa : List He.Fa} {fn : List He.DefD} {ts : List He.Tab} {tf : List He.Defn} {ex : PySem.W.Frag → Bool} {g : Addr → Option Obj} {s : Shared} (h : ∀ a, g a = s.heap.get? a) : obsS n fa fn ts tf ex g = (hookS n fa fn ts tf ex).obs s := by
  rw [show g = s.heap.get? from funext h] <;> rfl
end Pb
end

section
set_option Elab.async false
set_option linter.all false
set_option maxRecDepth 100000
set_option maxHeartbeats 2000000
/-! x += e, x -= e, x *= e of whole numbers. -/
namespace Pb
open PySem PySem.Spec PyProof.Rows L2
section
variable {X : Cx} {ca : Ca} {Ex : XK} {M0 : Addr → Prop} {L : Lk} {pos : Pos}
theorem iop_mulW : OpR X (inplaceOp .Mult) (rI CMulW fun i j => .int (i * j)) := opI fun _ _ _ _ _ _ _ hc q => imul_int q hc.ok
def augR : Bop → R2
  | .add => rI0 fun i j => .int (i + j)
  | .sub => rI0 fun i j => .int (i - j)
  | .mul => fun x y H Q => rI CMul (fun i j => .int (i * j)) x y H Q ∨ rI CMulW (fun i j => .int (i * j)) x y H Q
  | _ => fun _ _ _ _ => False
theorem aug_op (op : Bop) : OpR X (inplaceOp (bopOf op)) (augR op) := by
  cases op with
  | add => exact opI0 fun _ _ _ _ _ _ _ q => iadd_int q
  | sub => exact opI0 fun _ _ _ _ _ _ _ q => isub_int q
  | mul => exact OpR.or iop_mul iop_mulW
  | _ => exact fun _ _ _ _ _ _ _ _ _ _ _ _ h => h.elim
theorem g_aug {i : Nat} {x : Str} {e : Expr} {c : CE} {op : Bop} {xp : Pos} (ho : op = .add ∨ op = .sub ∨ op = .mul) (hb : c.isBor = false) (hN : X.N.Nodup) (h : loB X.fn X.N X.env.scope i x = true) (he : SE X ca (WO Ex) L e c) :
    SS X ca Ex M0 L (.AugAssign (.Name x xp) (bopOf op) e pos) (.set i false (.bin op (.bin .sub (.var i) (.lit (.int 0))) c)) := imS (ps_aug (ti := augR op) hN (loB_ok h).1 (loB_ok h).2.1 he (fun pins s σ H x y v u Q I r1 r2 h => aug_op op pins s σ H x y v u Q I r1 r2 h) (loB_ok h).2.2) fun D σ H h => by
  obtain ⟨O, al, S, r, he, hs, hg⟩ := h
  have hg : GoalS X.K ca L.pu Ex M0 O al S H (((ev L (.bin .sub (.var i) (.lit (.int 0))) r >>= fun x => ev L c r >>= fun y => ofOpt (binV op x.d y.d)) >>= fun o => pure (.nx (r.set i (.v o.d)))) S) D.nx D.rt := hg
  rw [M.bind_assoc] at hg
  have bad : ev L (.bin .sub (.var i) (.lit (.int 0))) r S = .bad → False := fun e => by
    rw [show (ev L (.bin .sub (.var i) (.lit (.int 0))) r >>= fun x => (ev L c r >>= fun y => ofOpt (binV op x.d y.d)) >>= fun o => pure (Fl.nx (r.set i (.v o.d)))) S = M.bind (ev L (.bin .sub (.var i) (.lit (.int 0))) r) (fun x => (ev L c r >>= fun y => ofOpt (binV op x.d y.d)) >>= fun o => pure (Fl.nx (r.set i (.v o.d)))) S from rfl] at hg
    unfold M.bind at hg
    rw [e] at hg
    exact hg
  have e0 : ev L (.bin .sub (.var i) (.lit (.int 0))) r S = ((match r[i]? with | some (.v d) => pure (.v d) | _ => M.bad : M Out) >>= fun x => ofOpt (binV .sub x.d (.int 0))) S := rfl
  cases q : r[i]? with
  | none => rw [q] at e0; exact (bad e0).elim
  | some sl =>
    rw [q] at e0
    cases sl with
    | un => exact (bad e0).elim
    | own _ => exact (bad e0).elim
    | v d =>
      cases d with
      | int a =>
        have e1 : ev L (.bin .sub (.var i) (.lit (.int 0))) r S = .ok (.v (.int a)) S := by
          rw [e0]
          show R.ok (Out.v (.int (a - 0))) S = _
          rw [Int.sub_zero]
        rw [M.bind_eq e1, M.bind_assoc] at hg
        obtain ⟨v, h1, h2⟩ := he.env.vl i _ q
        refine ⟨v, h1, ofE he hs hg fun o S1 al1 u H1 p ro e1 s1 g1 => ?_⟩
        rw [hb] at ro
        have r2 := ro.rep s1
        cases h2
        generalize o.d = d2 at r2 g1
        have fin : ∀ {z : Int}, binV op (.int a) d2 = some (.v (.int z)) → D.nx (σ.set i (some (.int z))) H1 := fun {z} hz => by
          rw [show (Out.v (Pb.D.int a)).d = Pb.D.int a from rfl, hz] at g1
          exact GoalS.nx (show GoalS X.K ca L.pu Ex M0 O al1 S1 H1 (.ok (.nx (r.set i (.v (.int z)))) S1) D.nx D.rt from g1) (Step.refl s1) (e1.setV i (.int z))
        rcases ho with rfl | rfl | rfl
        · cases d2 with
          | int b =>
            cases r2
            exact ⟨a, b, rfl, rfl, fin rfl⟩
          | _ => exact g1.elim
        · cases d2 with
          | int b =>
            cases r2
            exact ⟨a, b, rfl, rfl, fin rfl⟩
          | _ => exact g1.elim
        · cases d2 with
          | int b =>
            cases r2
            have e2 : binV .mul (.int a) (.int b) = if (smallI a || smallI b || decide (a.natAbs.log2 + b.natAbs.log2 < 1000000)) = true then some (.v (.int (a * b))) else none := rfl
            by_cases hz : (smallI a || smallI b || decide (a.natAbs.log2 + b.natAbs.log2 < 1000000)) = true
            · rw [if_pos hz] at e2
              have hz' := hz
              rw [Bool.or_eq_true, Bool.or_eq_true, decide_eq_true_eq] at hz'
              rcases hz' with hz' | hz'
              · exact .inl ⟨a, b, rfl, rfl, hz'.imp smallI_of smallI_of, fin e2⟩
              · exact .inr ⟨a, b, rfl, rfl, hz', fin e2⟩
            · rw [if_neg hz] at e2
              rw [show (Out.v (Pb.D.int a)).d = Pb.D.int a from rfl, e2] at g1
              exact g1.elim
          | _ => exact g1.elim
      | _ => exact (bad e0).elim
end
end Pb
end

section
set_option Elab.async false
set_option linter.all false
set_option maxRecDepth 100000
set_option maxHeartbeats 1000000
/-! The cores of the defs (printed by gen_dc.py). -/
namespace Pb
open PySem
def d_is_number : FD := ⟨3, 3, true, (.cons (.ret (.and (.prim (.isI .int) (.cons (.var 0) .nil)) (.and (.not (.prim (.isI .bool) (.cons (.var 0) .nil))) (.chain .le .le (.var 1) (.var 0) (.var 2))))) .nil)⟩
def d_is_lot : FD := ⟨2, 4, true, (.cons (.ite (.or (.not (.prim (.isI .tuple) (.cons (.var 0) .nil))) (.not (.prim .all (.cons (.comp (.call .is_number (.cons (.var 3) (.cons (.lit (.int 0)) (.cons (.bin .sub (.var 1) (.lit (.int 1))) .nil)))) (.var 3) (.seq (.var 0)) .nil [3]) .nil)))) (.cons (.ret (.lit (.bool false))) .nil) .nil) (.cons (.ret (.prim .all (.cons (.comp (.cmp .lt (.idx (.var 0) (.var 2)) (.idx (.var 0) (.bin .add (.var 2) (.lit (.int 1))))) (.var 2) (.rng (.cons (.bin .sub (.prim .len (.cons (.var 0) .nil)) (.lit (.int 1))) .nil)) .nil [2]) .nil))) .nil))⟩
def d_need_plan : FD := ⟨1, 5, true, (.cons (.ite (.or (.not (.prim (.isI .tuple) (.cons (.var 0) .nil))) (.or (.cmp .ne (.prim .len (.cons (.var 0) .nil)) (.lit (.int 2))) (.not (.call .is_number (.cons (.idx (.var 0) (.lit (.int 0))) (.cons (.lit (.int 1)) (.cons (.lit (.int 10)) .nil))))))) (.cons (.raise .badPlan (.cons (.bin .sub (.lit (.int 0)) (.lit (.int 1))) .nil)) .nil) .nil) (.cons (.unp (.tup (.cons (.var 1) (.cons (.var 2) .nil))) (.var 0)) (.cons (.ite (.not (.prim (.isI .tuple) (.cons (.var 2) .nil))) (.cons (.raise .badPlan (.cons (.lit (.int 0)) .nil)) .nil) .nil) (.cons (.for_ (.tup (.cons (.var 3) (.cons (.var 4) .nil))) (.enum (.var 2)) (.cons (.ite (.or (.cmp .eq (.var 3) (.lit (.int 16))) (.or (.not (.call .is_lot (.cons (.var 4) (.cons (.var 1) .nil)))) (.cmp .eq (.var 4) (.tup .nil)))) (.cons (.raise .badPlan (.cons (.var 3) .nil)) .nil) .nil) .nil)) .nil))))⟩
def d_need_lot : FD := ⟨2, 2, true, (.cons (.ite (.not (.call .is_lot (.cons (.var 1) (.cons (.idx (.var 0) (.lit (.int 0))) .nil)))) (.cons (.raise .badLot .nil) .nil) .nil) .nil)⟩
def d_need_count : FD := ⟨3, 3, true, (.cons (.ite (.not (.call .is_number (.cons (.var 0) (.cons (.var 1) (.cons (.var 2) .nil))))) (.cons (.raise .badCount .nil) .nil) .nil) .nil)⟩
def d_answer_of : FD := ⟨2, 3, true, (.cons (.ret (.prim .intOf (.cons (.prim .any (.cons (.comp (.cmp .mem (.var 2) (.var 1)) (.var 2) (.seq (.var 0)) .nil [2]) .nil)) .nil))) .nil)⟩
def d_answers_of : FD := ⟨2, 3, true, (.cons (.ret (.prim .tupOf (.cons (.comp (.call .answer_of (.cons (.var 2) (.cons (.var 1) .nil))) (.var 2) (.seq (.idx (.var 0) (.lit (.int 1)))) .nil [2]) .nil))) .nil)⟩
def d_answers : FD := ⟨2, 2, true, (.cons (.drop (.call .need_plan (.cons (.var 0) .nil))) (.cons (.drop (.call .need_lot (.cons (.var 0) (.cons (.var 1) .nil)))) (.cons (.ret (.call .answers_of (.cons (.var 0) (.cons (.var 1) .nil)))) .nil)))⟩
def d_grid : FD := ⟨2, 5, true, (.cons (.drop (.call .need_count (.cons (.var 0) (.cons (.lit (.int 1)) (.cons (.lit (.int 10)) .nil))))) (.cons (.drop (.call .need_count (.cons (.var 1) (.cons (.lit (.int 1)) (.cons (.lit (.int 10)) .nil))))) (.cons (.drop (.call .need_count (.cons (.bin .mul (.var 0) (.var 1)) (.cons (.lit (.int 1)) (.cons (.lit (.int 10)) .nil))))) (.cons (.set 2 true (.comp (.rgT (.cons (.bin .mul (.var 3) (.var 1)) (.cons (.bin .add (.bin .mul (.var 3) (.var 1)) (.var 1)) .nil))) (.var 3) (.rng (.cons (.var 0) .nil)) .nil [3])) (.cons (.ext 2 (.comp (.rgT (.cons (.var 4) (.cons (.bin .mul (.var 0) (.var 1)) (.cons (.var 1) .nil)))) (.var 4) (.rng (.cons (.var 1) .nil)) .nil [4])) (.cons (.ret (.tup (.cons (.bin .mul (.var 0) (.var 1)) (.cons (.prim .tupOf (.cons (.bor 2) .nil)) .nil)))) .nil))))))⟩
def d_beside : FD := ⟨2, 5, true, (.cons (.drop (.call .need_plan (.cons (.var 0) .nil))) (.cons (.drop (.call .need_plan (.cons (.var 1) .nil))) (.cons (.set 2 false (.tup (.cons (.bin .add (.idx (.var 0) (.lit (.int 0))) (.idx (.var 1) (.lit (.int 0)))) (.cons (.bin .add (.idx (.var 0) (.lit (.int 1))) (.prim .tupOf (.cons (.comp (.prim .tupOf (.cons (.comp (.bin .add (.var 4) (.idx (.var 0) (.lit (.int 0)))) (.var 4) (.seq (.var 3)) .nil [4]) .nil)) (.var 3) (.seq (.idx (.var 1) (.lit (.int 1)))) .nil [3]) .nil))) .nil)))) (.cons (.ite (.cmp .gt (.idx (.var 2) (.lit (.int 0))) (.lit (.int 10))) (.cons (.raise .badPlan (.cons (.bin .sub (.lit (.int 0)) (.lit (.int 1))) .nil)) .nil) .nil) (.cons (.drop (.call .need_plan (.cons (.var 2) .nil))) (.cons (.ret (.var 2)) .nil))))))⟩
def d__law_row : FD := ⟨1, 3, false, (.cons (.set 1 false (.lit (.int 7))) (.cons (.for_ (.var 2) (.seq (.var 0)) (.cons (.set 1 false (.bin .mod (.bin .add (.bin .add (.bin .mul (.var 1) (.lit (.int 48271))) (.var 2)) (.lit (.int 11))) (.lit (.int 2147483647)))) .nil)) (.cons (.retL (.cons (.var 0) (.cons (.lit (.int 0)) (.cons (.lit (.int 0)) (.cons (.var 1) .nil))))) .nil)))⟩
def d__law_taken : FD := ⟨2, 4, false, (.cons (.ite (.cmp .gt (.idx (.var 0) (.lit (.int 2))) (.lit (.int 0))) (.cons (.set 2 false (.bin .mod (.idx (.var 0) (.lit (.int 2))) (.var 1))) (.cons (.setI (.var 0) (.lit (.int 2)) (.bin .fdiv (.idx (.var 0) (.lit (.int 2))) (.var 1))) (.cons (.ret (.var 2)) .nil))) .nil) (.cons (.ite (.cmp .lt (.idx (.var 0) (.lit (.int 1))) (.prim .len (.cons (.idx (.var 0) (.lit (.int 0))) .nil))) (.cons (.set 3 false (.idx (.idx (.var 0) (.lit (.int 0))) (.idx (.var 0) (.lit (.int 1))))) (.cons (.setI (.var 0) (.lit (.int 1)) (.bin .add (.idx (.var 0) (.lit (.int 1))) (.lit (.int 1)))) (.cons (.ite (.cmp .ge (.var 3) (.bin .pow (.lit (.int 10)) (.lit (.int 18)))) (.cons (.setI (.var 0) (.lit (.int 2)) (.bin .fdiv (.var 3) (.var 1))) .nil) .nil) (.cons (.ret (.bin .mod (.var 3) (.var 1))) .nil)))) .nil) (.cons (.setI (.var 0) (.lit (.int 3)) (.bin .mod (.bin .add (.bin .mul (.idx (.var 0) (.lit (.int 3))) (.lit (.int 48271))) (.lit (.int 12345))) (.lit (.int 2147483647)))) (.cons (.ret (.bin .mod (.bin .fdiv (.idx (.var 0) (.lit (.int 3))) (.lit (.int 1009))) (.var 1))) .nil))))⟩
def d__law_lot : FD := ⟨2, 3, false, (.cons (.ret (.prim .tupOf (.cons (.comp (.var 2) (.var 2) (.rng (.cons (.var 1) .nil)) (.cons (.cmp .lt (.call .l_taken (.cons (.var 0) (.cons (.lit (.int 5)) .nil))) (.lit (.int 2))) .nil) [2]) .nil))) .nil)⟩
def d__law_plan : FD := ⟨3, 7, false, (.cons (.par2 3 4 (.bin .add (.lit (.int 1)) (.call .l_taken (.cons (.var 0) (.cons (.var 1) .nil)))) (.tup .nil)) (.cons (.for_ (.var 5) (.rng (.cons (.call .l_taken (.cons (.var 0) (.cons (.bin .add (.var 2) (.lit (.int 1))) .nil))) .nil)) (.cons (.set 6 false (.call .l_lot (.cons (.var 0) (.cons (.var 3) .nil)))) (.cons (.set 4 false (.bin .add (.var 4) (.tup (.cons (.ite (.cmp .ne (.var 6) (.tup .nil)) (.var 6) (.tup (.cons (.call .l_taken (.cons (.var 0) (.cons (.var 3) .nil))) .nil))) .nil)))) .nil))) (.cons (.ret (.tup (.cons (.var 3) (.cons (.var 4) .nil)))) .nil)))⟩
def d__law_alike : FD := ⟨2, 4, true, (.cons (.ite (.prim (.is2 .tuple .list) (.cons (.var 1) .nil)) (.cons (.ite (.or (.cmp .ne (.prim (.isI .tuple) (.cons (.var 0) .nil)) (.prim (.isI .tuple) (.cons (.var 1) .nil))) (.not (.prim (.is2 .tuple .list) (.cons (.var 0) .nil)))) (.cons (.ret (.lit (.bool false))) .nil) .nil) (.cons (.ite (.cmp .ne (.prim .len (.cons (.var 0) .nil)) (.prim .len (.cons (.var 1) .nil))) (.cons (.ret (.lit (.bool false))) .nil) .nil) (.cons (.ret (.cmp .eq (.comp (.var 3) (.var 3) (.rng (.cons (.prim .len (.cons (.var 1) .nil)) .nil)) (.cons (.not (.call .l_alike (.cons (.idx (.var 0) (.var 3)) (.cons (.idx (.var 1) (.var 3)) .nil)))) .nil) [3]) (.lst .nil))) .nil))) .nil) (.cons (.ite (.or (.isN (.var 1)) (.isN (.var 0))) (.cons (.ret (.and (.isN (.var 1)) (.isN (.var 0)))) .nil) .nil) (.cons (.set 2 false (.cmp .eq (.prim (.isI .str) (.cons (.var 1) .nil)) (.prim (.isI .str) (.cons (.var 0) .nil)))) (.cons (.ret (.and (.var 2) (.and (.cmp .eq (.prim (.isI .bool) (.cons (.var 1) .nil)) (.prim (.isI .bool) (.cons (.var 0) .nil))) (.cmp .eq (.var 0) (.var 1))))) .nil))))⟩
def d__law_answers : FD := ⟨2, 4, true, (.cons (.ret (.prim .tupOf (.cons (.comp (.prim .intOf (.cons (.cmp .ne (.comp (.var 3) (.var 3) (.seq (.var 2)) (.cons (.cmp .mem (.var 3) (.var 1)) .nil) [3]) (.lst .nil)) .nil)) (.var 2) (.seq (.idx (.var 0) (.lit (.int 1)))) .nil [2]) .nil))) .nil)⟩
def d_need_answers : FD := ⟨2, 3, true, (.cons (.ite (.not (.prim (.isI .tuple) (.cons (.var 1) .nil))) (.cons (.raise .badAnswers (.cons (.lit (.int 0)) .nil)) .nil) .nil) (.cons (.for_ (.var 2) (.rng (.cons (.prim .len (.cons (.idx (.var 0) (.lit (.int 1))) .nil)) .nil)) (.cons (.ite (.or (.cmp .ge (.var 2) (.prim .len (.cons (.var 1) .nil))) (.and (.notN (.idx (.var 1) (.var 2))) (.not (.call .is_number (.cons (.idx (.var 1) (.var 2)) (.cons (.lit (.int 0)) (.cons (.lit (.int 1)) .nil))))))) (.cons (.raise .badAnswers (.cons (.var 2) .nil)) .nil) .nil) .nil)) (.cons (.ite (.cmp .gt (.prim .len (.cons (.var 1) .nil)) (.prim .len (.cons (.idx (.var 0) (.lit (.int 1))) .nil))) (.cons (.raise .badAnswers (.cons (.prim .len (.cons (.idx (.var 0) (.lit (.int 1))) .nil)) .nil)) .nil) .nil) .nil)))⟩
def d_rising : FD := ⟨3, 6, true, (.cons (.ite (.cmp .eq (.var 1) (.lit (.int 0))) (.cons (.ret (.lst (.cons (.tup .nil) .nil))) .nil) .nil) (.cons (.set 3 true (.lst .nil)) (.cons (.for_ (.var 4) (.rng (.cons (.var 2) (.cons (.var 0) .nil))) (.cons (.ext 3 (.comp (.bin .add (.tup (.cons (.var 4) .nil)) (.var 5)) (.var 5) (.seq (.call .rising (.cons (.var 0) (.cons (.bin .sub (.var 1) (.lit (.int 1))) (.cons (.bin .add (.var 4) (.lit (.int 1))) .nil))))) .nil [5])) .nil)) (.cons (.retO 3) .nil))))⟩
def d_all_lots : FD := ⟨2, 4, true, (.cons (.set 2 true (.lst .nil)) (.cons (.for_ (.var 3) (.rng (.cons (.bin .add (.prim .min2 (.cons (.var 0) (.cons (.var 1) .nil))) (.lit (.int 1))) .nil)) (.cons (.ext 2 (.call .rising (.cons (.var 0) (.cons (.var 3) (.cons (.lit (.int 0)) .nil))))) .nil)) (.cons (.retO 2) .nil)))⟩
def d_slips_of : FD := ⟨2, 4, true, (.cons (.ret (.prim .len (.cons (.comp (.var 2) (.tup (.cons (.var 2) (.cons (.var 3) .nil))) (.zip (.var 0) (.var 1)) (.cons (.and (.notN (.var 2)) (.cmp .ne (.var 2) (.var 3))) .nil) [2, 3]) .nil))) .nil)⟩
def d_lots_by : FD := ⟨4, 5, true, (.cons (.ret (.comp (.var 4) (.var 4) (.seq (.call .all_lots (.cons (.idx (.var 0) (.lit (.int 0))) (.cons (.var 2) .nil)))) (.cons (.cmp .le (.call .slips_of (.cons (.var 1) (.cons (.call .answers_of (.cons (.var 0) (.cons (.var 4) .nil))) .nil))) (.var 3)) .nil) [4])) .nil)⟩
def d_need_all : FD := ⟨4, 4, true, (.cons (.drop (.call .need_plan (.cons (.var 0) .nil))) (.cons (.drop (.call .need_answers (.cons (.var 0) (.cons (.var 1) .nil)))) (.cons (.drop (.call .need_count (.cons (.var 2) (.cons (.lit (.int 0)) (.cons (.lit (.int 3)) .nil))))) (.cons (.drop (.call .need_count (.cons (.var 3) (.cons (.lit (.int 0)) (.cons (.lit (.int 16)) .nil))))) .nil))))⟩
def d_could : FD := ⟨4, 5, true, (.cons (.drop (.call .need_all (.cons (.var 0) (.cons (.var 1) (.cons (.var 2) (.cons (.var 3) .nil)))))) (.cons (.ret (.comp (.tup (.cons (.var 4) (.cons (.call .slips_of (.cons (.var 1) (.cons (.call .answers_of (.cons (.var 0) (.cons (.var 4) .nil))) .nil))) .nil))) (.var 4) (.seq (.call .lots_by (.cons (.var 0) (.cons (.var 1) (.cons (.var 2) (.cons (.var 3) .nil)))))) .nil [4])) .nil))⟩
def d_sure : FD := ⟨4, 8, true, (.cons (.drop (.call .need_all (.cons (.var 0) (.cons (.var 1) (.cons (.var 2) (.cons (.var 3) .nil)))))) (.cons (.set 4 false (.call .lots_by (.cons (.var 0) (.cons (.var 1) (.cons (.var 2) (.cons (.var 3) .nil)))))) (.cons (.ite (.cmp .eq (.var 4) (.lst .nil)) (.cons (.ret (.lit .non)) .nil) .nil) (.cons (.set 5 false (.comp (.var 6) (.var 6) (.rng (.cons (.idx (.var 0) (.lit (.int 0))) .nil)) (.cons (.prim .all (.cons (.comp (.cmp .mem (.var 6) (.var 7)) (.var 7) (.seq (.var 4)) .nil [7]) .nil)) .nil) [6])) (.cons (.ret (.tup (.cons (.var 5) (.cons (.comp (.var 6) (.var 6) (.rng (.cons (.idx (.var 0) (.lit (.int 0))) .nil)) (.cons (.not (.prim .any (.cons (.comp (.cmp .mem (.var 6) (.var 7)) (.var 7) (.seq (.var 4)) .nil [7]) .nil))) .nil) [6]) .nil)))) .nil)))))⟩
def d_apart : FD := ⟨2, 10, true, (.cons (.drop (.call .need_plan (.cons (.var 0) .nil))) (.cons (.drop (.call .need_count (.cons (.var 1) (.cons (.lit (.int 0)) (.cons (.lit (.int 3)) .nil))))) (.cons (.set 2 false (.comp (.tup (.cons (.var 5) (.cons (.call .answers_of (.cons (.var 0) (.cons (.var 5) .nil))) .nil))) (.var 5) (.seq (.call .all_lots (.cons (.idx (.var 0) (.lit (.int 0))) (.cons (.var 1) .nil)))) .nil [5])) (.cons (.set 3 false (.lit .non)) (.cons (.for_ (.tup (.cons (.var 4) (.cons (.tup (.cons (.var 5) (.cons (.var 6) .nil))) .nil))) (.enum (.var 2)) (.cons (.for_ (.tup (.cons (.var 7) (.cons (.var 8) .nil))) (.seq (.slc (.var 2) (some (.bin .add (.var 4) (.lit (.int 1)))) none)) (.cons (.set 9 false (.call .slips_of (.cons (.var 6) (.cons (.var 8) .nil)))) (.cons (.ite (.or (.isN (.var 3)) (.cmp .lt (.var 9) (.idx (.var 3) (.lit (.int 0))))) (.cons (.set 3 false (.tup (.cons (.var 9) (.cons (.var 5) (.cons (.var 7) .nil))))) .nil) .nil) .nil))) .nil)) (.cons (.ret (.var 3)) .nil))))))⟩
def d_idle : FD := ⟨2, 6, true, (.cons (.drop (.call .need_plan (.cons (.var 0) .nil))) (.cons (.drop (.call .need_count (.cons (.var 1) (.cons (.lit (.int 0)) (.cons (.lit (.int 3)) .nil))))) (.cons (.set 2 false (.call .kinds_of (.cons (.var 0) (.cons (.var 1) .nil)))) (.cons (.set 3 true (.lst .nil)) (.cons (.for_ (.var 4) (.rng (.cons (.prim .len (.cons (.idx (.var 0) (.lit (.int 1))) .nil)) .nil)) (.cons (.set 5 false (.tup (.cons (.idx (.var 0) (.lit (.int 0))) (.cons (.bin .add (.slc (.idx (.var 0) (.lit (.int 1))) none (some (.var 4))) (.slc (.idx (.var 0) (.lit (.int 1))) (some (.bin .add (.var 4) (.lit (.int 1)))) none)) .nil)))) (.cons (.ite (.cmp .eq (.call .kinds_of (.cons (.var 5) (.cons (.var 1) .nil))) (.var 2)) (.cons (.app 3 (.var 4)) .nil) .nil) .nil))) (.cons (.retO 3) .nil))))))⟩
def d_kinds : FD := ⟨2, 2, true, (.cons (.drop (.call .need_plan (.cons (.var 0) .nil))) (.cons (.drop (.call .need_count (.cons (.var 1) (.cons (.lit (.int 0)) (.cons (.lit (.int 3)) .nil))))) (.cons (.ret (.call .kinds_of (.cons (.var 0) (.cons (.var 1) .nil)))) .nil)))⟩
def d_divisor : FD := ⟨2, 2, true, (.cons (.while_ (.cmp .ne (.var 1) (.lit (.int 0))) (.cons (.par2 0 1 (.var 1) (.bin .mod (.var 0) (.var 1))) .nil)) (.cons (.ret (.var 0)) .nil))⟩
def d_part : FD := ⟨2, 3, true, (.cons (.set 2 false (.call .divisor (.cons (.var 0) (.cons (.var 1) .nil)))) (.cons (.ret (.tup (.cons (.bin .fdiv (.var 0) (.var 2)) (.cons (.bin .fdiv (.var 1) (.var 2)) .nil)))) .nil))⟩
def d_need_chances : FD := ⟨2, 3, true, (.cons (.ite (.not (.prim (.isI .tuple) (.cons (.var 1) .nil))) (.cons (.raise .badChances (.cons (.lit (.int 0)) .nil)) .nil) .nil) (.cons (.for_ (.var 2) (.rng (.cons (.idx (.var 0) (.lit (.int 0))) .nil)) (.cons (.ite (.or (.cmp .ge (.var 2) (.prim .len (.cons (.var 1) .nil))) (.not (.call .is_number (.cons (.idx (.var 1) (.var 2)) (.cons (.lit (.int 0)) (.cons (.lit (.int 100)) .nil)))))) (.cons (.raise .badChances (.cons (.var 2) .nil)) .nil) .nil) .nil)) (.cons (.ite (.cmp .gt (.prim .len (.cons (.var 1) .nil)) (.idx (.var 0) (.lit (.int 0)))) (.cons (.raise .badChances (.cons (.idx (.var 0) (.lit (.int 0))) .nil)) .nil) .nil) .nil)))⟩
def d_weight_of : FD := ⟨5, 12, true, (.cons (.set 5 false (.lit (.int 1))) (.cons (.for_ (.tup (.cons (.var 6) (.cons (.var 7) .nil))) (.enum (.var 2)) (.cons (.set 5 false (.bin .mul (.bin .sub (.var 5) (.lit (.int 0))) (.ite (.cmp .mem (.var 6) (.var 4)) (.var 7) (.bin .sub (.lit (.int 100)) (.var 7))))) .nil)) (.cons (.set 8 false (.call .slips_of (.cons (.var 1) (.cons (.call .answers_of (.cons (.var 0) (.cons (.var 4) .nil))) .nil)))) (.cons (.set 9 false (.prim .len (.cons (.comp (.var 11) (.var 11) (.seq (.var 1)) (.cons (.notN (.var 11)) .nil) [11]) .nil))) (.cons (.for_ (.var 10) (.rng (.cons (.var 8) .nil)) (.cons (.set 5 false (.bin .mul (.bin .sub (.var 5) (.lit (.int 0))) (.var 3))) .nil)) (.cons (.for_ (.var 10) (.rng (.cons (.bin .sub (.var 9) (.var 8)) .nil)) (.cons (.set 5 false (.bin .mul (.bin .sub (.var 5) (.lit (.int 0))) (.bin .sub (.lit (.int 100)) (.var 3)))) .nil)) (.cons (.ret (.var 5)) .nil)))))))⟩
def d_weights : FD := ⟨5, 8, true, (.cons (.drop (.call .need_plan (.cons (.var 0) .nil))) (.cons (.drop (.call .need_answers (.cons (.var 0) (.cons (.var 1) .nil)))) (.cons (.drop (.call .need_chances (.cons (.var 0) (.cons (.var 2) .nil)))) (.cons (.drop (.call .need_count (.cons (.var 3) (.cons (.lit (.int 0)) (.cons (.lit (.int 100)) .nil))))) (.cons (.drop (.call .need_count (.cons (.var 4) (.cons (.lit (.int 0)) (.cons (.lit (.int 3)) .nil))))) (.cons (.set 5 false (.comp (.tup (.cons (.var 6) (.cons (.call .weight_of (.cons (.var 0) (.cons (.var 1) (.cons (.var 2) (.cons (.var 3) (.cons (.var 6) .nil)))))) .nil))) (.var 6) (.seq (.call .all_lots (.cons (.idx (.var 0) (.lit (.int 0))) (.cons (.var 4) .nil)))) .nil [6])) (.cons (.set 5 false (.comp (.var 7) (.var 7) (.seq (.var 5)) (.cons (.cmp .gt (.idx (.var 7) (.lit (.int 1))) (.lit (.int 0))) .nil) [7])) (.cons (.ite (.cmp .eq (.var 5) (.lst .nil)) (.cons (.raise .noLot .nil) .nil) .nil) (.cons (.ret (.var 5)) .nil)))))))))⟩
def d_shares : FD := ⟨5, 9, true, (.cons (.set 5 false (.call .weights (.cons (.var 0) (.cons (.var 1) (.cons (.var 2) (.cons (.var 3) (.cons (.var 4) .nil))))))) (.cons (.set 6 false (.prim .sum (.cons (.comp (.var 8) (.tup (.cons (.var 7) (.cons (.var 8) .nil))) (.seq (.var 5)) .nil [7, 8]) .nil))) (.cons (.set 5 false (.sortk .shr (.var 5))) (.cons (.ret (.comp (.tup (.cons (.var 7) (.cons (.call .part (.cons (.var 8) (.cons (.var 6) .nil))) .nil))) (.tup (.cons (.var 7) (.cons (.var 8) .nil))) (.seq (.var 5)) .nil [7, 8])) .nil))))⟩
def d_each : FD := ⟨5, 10, true, (.cons (.set 5 false (.call .weights (.cons (.var 0) (.cons (.var 1) (.cons (.var 2) (.cons (.var 3) (.cons (.var 4) .nil))))))) (.cons (.set 6 false (.prim .sum (.cons (.comp (.var 9) (.tup (.cons (.var 8) (.cons (.var 9) .nil))) (.seq (.var 5)) .nil [8, 9]) .nil))) (.cons (.ret (.comp (.call .part (.cons (.prim .sum (.cons (.comp (.var 9) (.tup (.cons (.var 8) (.cons (.var 9) .nil))) (.seq (.var 5)) (.cons (.cmp .mem (.var 7) (.var 8)) .nil) [8, 9]) .nil)) (.cons (.var 6) .nil))) (.var 7) (.rng (.cons (.idx (.var 0) (.lit (.int 0))) .nil)) .nil [7])) .nil)))⟩
def d_tells : FD := ⟨4, 8, true, (.cons (.drop (.call .need_plan (.cons (.var 0) .nil))) (.cons (.drop (.call .need_chances (.cons (.var 0) (.cons (.var 1) .nil)))) (.cons (.drop (.call .need_count (.cons (.var 2) (.cons (.lit (.int 0)) (.cons (.bin .sub (.prim .len (.cons (.idx (.var 0) (.lit (.int 1))) .nil)) (.lit (.int 1))) .nil))))) (.cons (.set 4 false (.call .weights (.cons (.var 0) (.cons (.bin .mul (.tup (.cons (.lit .non) .nil)) (.prim .len (.cons (.idx (.var 0) (.lit (.int 1))) .nil))) (.cons (.var 1) (.cons (.lit (.int 0)) (.cons (.var 3) .nil))))))) (.cons (.set 5 false (.prim .sum (.cons (.comp (.var 7) (.tup (.cons (.var 6) (.cons (.var 7) .nil))) (.seq (.var 4)) .nil [6, 7]) .nil))) (.cons (.ret (.call .part (.cons (.prim .sum (.cons (.comp (.var 7) (.tup (.cons (.var 6) (.cons (.var 7) .nil))) (.seq (.var 4)) (.cons (.cmp .eq (.idx (.call .answers_of (.cons (.var 0) (.cons (.var 6) .nil))) (.var 2)) (.lit (.int 1))) .nil) [6, 7]) .nil)) (.cons (.var 5) .nil)))) .nil))))))⟩
def d__law_odd_plan : FD := ⟨3, 7, false, (.cons (.par2 3 4 (.call .l_taken (.cons (.var 0) (.cons (.lit (.int 4)) .nil))) (.call .l_taken (.cons (.var 0) (.cons (.lit (.int 99)) .nil)))) (.cons (.ite (.cmp .eq (.var 3) (.lit (.int 0))) (.cons (.ret (.tup (.cons (.idx (.lst (.cons (.tup (.cons (.var 1) .nil)) (.cons (.lit .non) (.cons (.lit (.int 5)) (.cons (.tup (.cons (.var 1) (.cons (.var 2) (.cons (.lit (.int 0)) .nil)))) (.cons (.lst (.cons (.var 1) (.cons (.var 2) .nil))) .nil)))))) (.call .l_taken (.cons (.var 0) (.cons (.lit (.int 5)) .nil)))) (.cons (.bin .sub (.lit (.int 0)) (.lit (.int 1))) .nil)))) .nil) .nil) (.cons (.ite (.cmp .eq (.var 3) (.lit (.int 1))) (.cons (.ret (.tup (.cons (.tup (.cons (.idx (.lst (.cons (.lit (.int 0)) (.cons (.bin .add (.lit (.int 11)) (.var 4)) (.cons (.bin .sub (.lit (.int 0)) (.lit (.int 1))) (.cons (.lit .non) (.cons (.lit (.bool true)) (.cons (.lit (.str ("2" : Str))) .nil))))))) (.call .l_taken (.cons (.var 0) (.cons (.lit (.int 6)) .nil)))) (.cons (.lit (.int 5)) .nil))) (.cons (.bin .sub (.lit (.int 0)) (.lit (.int 1))) .nil)))) .nil) .nil) (.cons (.ite (.cmp .eq (.var 3) (.lit (.int 2))) (.cons (.ite (.cmp .eq (.call .l_taken (.cons (.var 0) (.cons (.lit (.int 2)) .nil))) (.lit (.int 0))) (.cons (.ret (.tup (.cons (.tup (.cons (.var 1) (.cons (.bin .mul (.tup (.cons (.tup (.cons (.lit (.int 0)) .nil)) .nil)) (.bin .add (.lit (.int 17)) (.var 4))) .nil))) (.cons (.lit (.int 16)) .nil)))) .nil) .nil) (.cons (.ret (.tup (.cons (.tup (.cons (.var 1) (.cons (.idx (.lst (.cons (.lit .non) (.cons (.lit (.int 5)) (.cons (.prim .lstOf (.cons (.var 2) .nil)) (.cons (.lit (.str ("0" : Str))) .nil))))) (.call .l_taken (.cons (.var 0) (.cons (.lit (.int 4)) .nil)))) .nil))) (.cons (.lit (.int 0)) .nil)))) .nil)) .nil) (.cons (.set 5 false (.call .l_taken (.cons (.var 0) (.cons (.bin .add (.prim .len (.cons (.var 2) .nil)) (.lit (.int 1))) .nil)))) (.cons (.set 6 false (.lst (.cons (.tup .nil) (.cons (.tup (.cons (.var 1) .nil)) (.cons (.tup (.cons (.bin .sub (.lit (.int 0)) (.lit (.int 1))) .nil)) (.cons (.tup (.cons (.lit (.int 0)) (.cons (.lit (.int 0)) .nil))) (.cons (.lst (.cons (.lit (.int 0)) .nil)) (.cons (.lit .non) (.cons (.lit (.int 5)) (.cons (.tup (.cons (.lit .non) .nil)) (.cons (.tup (.cons (.lit (.bool true)) .nil)) (.cons (.tup (.cons (.lit (.str ("0" : Str))) .nil)) (.cons (.tup (.cons (.lit (.int 1)) (.cons (.lit (.int 0)) .nil))) .nil))))))))))))) (.cons (.set 6 false (.bin .add (.var 6) (.bin .mul (.lst (.cons (.bin .add (.rgT (.cons (.var 1) .nil)) (.tup (.cons (.bin .sub (.var 1) (.lit (.int 1))) .nil))) .nil)) (.lit (.int 3))))) (.cons (.ret (.tup (.cons (.tup (.cons (.var 1) (.cons (.bin .add (.bin .add (.slc (.var 2) none (some (.var 5))) (.tup (.cons (.idx (.var 6) (.call .l_taken (.cons (.var 0) (.cons (.lit (.int 14)) .nil)))) .nil))) (.slc (.var 2) (some (.var 5)) none)) .nil))) (.cons (.var 5) .nil)))) .nil))))))))⟩
def d__law_said : FD := ⟨2, 5, false, (.cons (.par2 2 3 (.call .l_answers (.cons (.var 1) (.cons (.slc (.call .l_lot (.cons (.var 0) (.cons (.idx (.var 1) (.lit (.int 0))) .nil))) none (some (.lit (.int 3)))) .nil))) (.tup .nil)) (.cons (.for_ (.var 4) (.seq (.var 2)) (.cons (.set 3 false (.bin .add (.var 3) (.tup (.cons (.idx (.lst (.cons (.var 4) (.cons (.var 4) (.cons (.var 4) (.cons (.var 4) (.cons (.bin .sub (.lit (.int 1)) (.var 4)) (.cons (.lit .non) (.cons (.lit .non) .nil)))))))) (.call .l_taken (.cons (.var 0) (.cons (.lit (.int 7)) .nil)))) .nil)))) .nil)) (.cons (.ret (.var 3)) .nil)))⟩
def d__law_lots : FD := ⟨2, 5, true, (.cons (.set 2 false (.lst (.cons (.tup .nil) .nil))) (.cons (.for_ (.var 3) (.rng (.cons (.var 0) .nil)) (.cons (.set 2 false (.bin .add (.var 2) (.comp (.bin .add (.var 4) (.tup (.cons (.var 3) .nil))) (.var 4) (.seq (.var 2)) (.cons (.cmp .lt (.prim .len (.cons (.var 4) .nil)) (.var 1)) .nil) [4]))) .nil)) (.cons (.ret (.sortk .self (.var 2))) .nil)))⟩
def d__law_slips : FD := ⟨2, 3, true, (.cons (.ret (.prim .len (.cons (.comp (.var 2) (.var 2) (.rng (.cons (.prim .len (.cons (.var 1) .nil)) .nil)) (.cons (.and (.notN (.idx (.var 0) (.var 2))) (.cmp .ne (.idx (.var 0) (.var 2)) (.idx (.var 1) (.var 2)))) .nil) [2]) .nil))) .nil)⟩
def d_parted : FD := ⟨2, 4, true, (.cons (.set 2 false (.prim .tupOf (.cons (.comp (.var 3) (.var 3) (.seq (.var 0)) (.cons (.cmp .eq (.call .answer_of (.cons (.var 1) (.cons (.var 3) .nil))) (.lit (.int 0))) .nil) [3]) .nil))) (.cons (.ret (.tup (.cons (.var 2) (.cons (.prim .tupOf (.cons (.comp (.var 3) (.var 3) (.seq (.var 0)) (.cons (.cmp .eq (.call .answer_of (.cons (.var 1) (.cons (.var 3) .nil))) (.lit (.int 1))) .nil) [3]) .nil)) .nil)))) .nil))⟩
def d_need_tree_counts : FD := ⟨2, 2, true, (.cons (.drop (.call .need_count (.cons (.var 0) (.cons (.lit (.int 1)) (.cons (.lit (.int 10)) .nil))))) (.cons (.drop (.call .need_count (.cons (.var 1) (.cons (.lit (.int 0)) (.cons (.lit (.int 3)) .nil))))) .nil))⟩
def d_walked : FD := ⟨4, 6, true, (.cons (.ite (.or (.not (.prim (.isI .tuple) (.cons (.var 2) .nil))) (.or (.cmp .eq (.var 2) (.tup .nil)) (.not (.prim (.isI .str) (.cons (.idx (.var 2) (.lit (.int 0))) .nil))))) (.cons (.raise .badTree (.cons (.var 3) .nil)) .nil) .nil) (.cons (.ite (.cmp .eq (.idx (.var 2) (.lit (.int 0))) (.lit (.str ("lot" : Str)))) (.cons (.ite (.or (.cmp .ne (.prim .len (.cons (.var 2) .nil)) (.lit (.int 2))) (.cmp .ne (.var 1) (.tup (.cons (.idx (.var 2) (.lit (.int 1))) .nil)))) (.cons (.raise .badTree (.cons (.var 3) .nil)) .nil) .nil) (.cons (.ret (.lst (.cons (.tup (.cons (.idx (.var 2) (.lit (.int 1))) (.cons (.prim .len (.cons (.var 3) .nil)) .nil))) .nil))) .nil)) .nil) (.cons (.ite (.or (.cmp .ne (.idx (.var 2) (.lit (.int 0))) (.lit (.str ("probe" : Str)))) (.or (.cmp .ne (.prim .len (.cons (.var 2) .nil)) (.lit (.int 4))) (.not (.call .is_lot (.cons (.idx (.var 2) (.lit (.int 1))) (.cons (.var 0) .nil)))))) (.cons (.raise .badTree (.cons (.var 3) .nil)) .nil) .nil) (.cons (.unp (.tup (.cons (.var 4) (.cons (.var 5) .nil))) (.call .parted (.cons (.var 1) (.cons (.idx (.var 2) (.lit (.int 1))) .nil)))) (.cons (.ite (.or (.cmp .eq (.var 4) (.tup .nil)) (.cmp .eq (.var 5) (.tup .nil))) (.cons (.raise .badTree (.cons (.var 3) .nil)) .nil) .nil) (.cons (.ret (.bin .add (.call .walked (.cons (.var 0) (.cons (.var 4) (.cons (.idx (.var 2) (.lit (.int 2))) (.cons (.bin .add (.var 3) (.tup (.cons (.lit (.int 0)) .nil))) .nil))))) (.call .walked (.cons (.var 0) (.cons (.var 5) (.cons (.idx (.var 2) (.lit (.int 3))) (.cons (.bin .add (.var 3) (.tup (.cons (.lit (.int 1)) .nil))) .nil))))))) .nil))))))⟩
def d_read_tree : FD := ⟨3, 4, true, (.cons (.drop (.call .need_tree_counts (.cons (.var 0) (.cons (.var 1) .nil)))) (.cons (.set 3 false (.call .walked (.cons (.var 0) (.cons (.prim .tupOf (.cons (.call .all_lots (.cons (.var 0) (.cons (.var 1) .nil))) .nil)) (.cons (.var 2) (.cons (.tup .nil) .nil)))))) (.cons (.ret (.sortk .fst (.var 3))) .nil)))⟩
def d__law_chances : FD := ⟨2, 3, false, (.cons (.ret (.prim .tupOf (.cons (.comp (.idx (.lst (.cons (.lit (.int 0)) (.cons (.lit (.int 1)) (.cons (.lit (.int 5)) (.cons (.lit (.int 50)) (.cons (.lit (.int 99)) (.cons (.lit (.int 100)) (.cons (.lit (.int 10)) (.cons (.lit (.int 20)) .nil))))))))) (.call .l_taken (.cons (.var 0) (.cons (.lit (.int 8)) .nil)))) (.var 2) (.rng (.cons (.var 1) .nil)) .nil [2]) .nil))) .nil)⟩
def d__law_weights : FD := ⟨5, 11, true, (.cons (.set 5 false (.lst .nil)) (.cons (.for_ (.var 6) (.seq (.call .l_lots (.cons (.idx (.var 0) (.lit (.int 0))) (.cons (.var 4) .nil)))) (.cons (.par2 7 8 (.lit (.int 1)) (.call .l_answers (.cons (.var 0) (.cons (.var 6) .nil)))) (.cons (.for_ (.var 9) (.rng (.cons (.idx (.var 0) (.lit (.int 0))) .nil)) (.cons (.set 7 false (.bin .mul (.var 7) (.idx (.lst (.cons (.bin .sub (.lit (.int 100)) (.idx (.var 2) (.var 9))) (.cons (.idx (.var 2) (.var 9)) .nil))) (.prim .intOf (.cons (.cmp .mem (.var 9) (.var 6)) .nil))))) .nil)) (.cons (.for_ (.var 10) (.rng (.cons (.prim .len (.cons (.var 8) .nil)) .nil)) (.cons (.ite (.notN (.idx (.var 1) (.var 10))) (.cons (.set 7 false (.bin .mul (.var 7) (.idx (.lst (.cons (.bin .sub (.lit (.int 100)) (.var 3)) (.cons (.var 3) .nil))) (.prim .intOf (.cons (.cmp .ne (.idx (.var 1) (.var 10)) (.idx (.var 8) (.var 10))) .nil))))) .nil) .nil) .nil)) (.cons (.set 5 false (.bin .add (.var 5) (.bin .mul (.lst (.cons (.tup (.cons (.var 6) (.cons (.var 7) .nil))) .nil)) (.prim .intOf (.cons (.cmp .gt (.var 7) (.lit (.int 0))) .nil))))) .nil))))) (.cons (.ret (.var 5)) .nil)))⟩
def d__law_gcd : FD := ⟨2, 2, true, (.cons (.while_ (.cmp .gt (.var 1) (.lit (.int 0))) (.cons (.par2 0 1 (.var 1) (.bin .mod (.var 0) (.var 1))) .nil)) (.cons (.ret (.var 0)) .nil))⟩
def d__law_part : FD := ⟨2, 3, true, (.cons (.set 2 false (.call .l_gcd (.cons (.var 0) (.cons (.var 1) .nil)))) (.cons (.ret (.tup (.cons (.bin .fdiv (.var 0) (.var 2)) (.cons (.bin .fdiv (.var 1) (.var 2)) .nil)))) .nil))⟩
def d__law_tells_too : FD := ⟨3, 9, true, (.cons (.set 3 false (.call .l_weights (.cons (.var 0) (.cons (.bin .mul (.tup (.cons (.lit .non) .nil)) (.prim .len (.cons (.idx (.var 0) (.lit (.int 1))) .nil))) (.cons (.var 1) (.cons (.lit (.int 0)) (.cons (.var 2) .nil))))))) (.cons (.set 4 false (.prim .sum (.cons (.comp (.var 8) (.tup (.cons (.var 7) (.cons (.var 8) .nil))) (.seq (.var 3)) .nil [7, 8]) .nil))) (.cons (.for_ (.var 5) (.rng (.cons (.prim .len (.cons (.idx (.var 0) (.lit (.int 1))) .nil)) .nil)) (.cons (.set 6 false (.tup (.cons (.lit (.str ("nolot" : Str))) (.cons (.lit .non) .nil)))) (.cons (.ite (.cmp .ne (.var 3) (.lst .nil)) (.cons (.set 6 false (.tup (.cons (.lit (.str ("" : Str))) (.cons (.call .l_part (.cons (.prim .sum (.cons (.comp (.var 8) (.tup (.cons (.var 7) (.cons (.var 8) .nil))) (.seq (.var 3)) (.cons (.cmp .eq (.idx (.call .l_answers (.cons (.var 0) (.cons (.var 7) .nil))) (.var 5)) (.lit (.int 1))) .nil) [7, 8]) .nil)) (.cons (.var 4) .nil))) .nil)))) .nil) .nil) (.cons (.ite (.not (.call .l_alike (.cons (.word (.call .tells (.cons (.var 0) (.cons (.var 1) (.cons (.var 5) (.cons (.var 2) .nil)))))) (.cons (.var 6) .nil)))) (.cons (.ret (.lit (.bool false))) .nil) .nil) .nil)))) (.cons (.ret (.lit (.bool true))) .nil))))⟩
def d__law_tree : FD := ⟨3, 12, false, (.cons (.ite (.cmp .eq (.prim .len (.cons (.var 1) .nil)) (.lit (.int 1))) (.cons (.ret (.tup (.cons (.lit (.int 0)) (.cons (.tup (.cons (.lit (.str ("lot" : Str))) (.cons (.idx (.var 1) (.lit (.int 0))) .nil))) .nil)))) .nil) .nil) (.cons (.ite (.cmp .nmem (.var 1) (.var 2)) (.cons (.set 3 false (.lit .non)) (.cons (.for_ (.var 4) (.seq (.var 0)) (.cons (.set 5 false (.prim .tupOf (.cons (.comp (.var 10) (.var 10) (.seq (.var 1)) (.cons (.cmp .ne (.comp (.var 11) (.var 11) (.seq (.var 4)) (.cons (.cmp .mem (.var 11) (.var 10)) .nil) [11]) (.lst .nil)) .nil) [10]) .nil))) (.cons (.set 6 false (.prim .tupOf (.cons (.comp (.var 10) (.var 10) (.seq (.var 1)) (.cons (.cmp .nmem (.var 10) (.var 5)) .nil) [10]) .nil))) (.cons (.ite (.and (.cmp .ne (.var 5) (.tup .nil)) (.cmp .ne (.var 6) (.tup .nil))) (.cons (.par2 7 8 (.call .l_tree (.cons (.var 0) (.cons (.var 6) (.cons (.var 2) .nil)))) (.call .l_tree (.cons (.var 0) (.cons (.var 5) (.cons (.var 2) .nil))))) (.cons (.set 9 false (.bin .add (.lit (.int 1)) (.prim .max2 (.cons (.idx (.var 7) (.lit (.int 0))) (.cons (.idx (.var 8) (.lit (.int 0))) .nil))))) (.cons (.ite (.or (.isN (.var 3)) (.cmp .lt (.var 9) (.idx (.var 3) (.lit (.int 0))))) (.cons (.set 3 false (.tup (.cons (.var 9) (.cons (.tup (.cons (.lit (.str ("probe" : Str))) (.cons (.var 4) (.cons (.idx (.var 7) (.lit (.int 1))) (.cons (.idx (.var 8) (.lit (.int 1))) .nil))))) .nil)))) .nil) .nil) .nil))) .nil) .nil)))) (.cons (.setI (.var 2) (.var 1) (.var 3)) .nil))) .nil) (.cons (.ret (.idx (.var 2) (.var 1))) .nil)))⟩
def d__law_drawn : FD := ⟨4, 12, false, (.cons (.ite (.cmp .eq (.prim .len (.cons (.var 2) .nil)) (.lit (.int 1))) (.cons (.ret (.tup (.cons (.tup (.cons (.lit (.str ("lot" : Str))) (.cons (.idx (.var 2) (.lit (.int 0))) .nil))) (.cons (.lst (.cons (.tup (.cons (.idx (.var 2) (.lit (.int 0))) (.cons (.prim .len (.cons (.var 3) .nil)) .nil))) .nil)) .nil)))) .nil) .nil) (.cons (.set 4 false (.lst .nil)) (.cons (.for_ (.var 5) (.seq (.bin .add (.comp (.tup (.cons (.var 11) .nil)) (.var 11) (.rng (.cons (.var 1) .nil)) .nil [11]) (.lst (.cons (.call .l_lot (.cons (.var 0) (.cons (.var 1) .nil))) (.cons (.call .l_lot (.cons (.var 0) (.cons (.var 1) .nil))) .nil))))) (.cons (.set 6 false (.comp (.var 10) (.var 10) (.seq (.var 2)) (.cons (.cmp .ne (.comp (.var 11) (.var 11) (.seq (.var 5)) (.cons (.cmp .mem (.var 11) (.var 10)) .nil) [11]) (.lst .nil)) .nil) [10])) (.cons (.set 4 false (.bin .add (.var 4) (.bin .mul (.lst (.cons (.tup (.cons (.var 5) (.cons (.var 6) .nil))) .nil)) (.prim .intOf (.cons (.chain .lt .lt (.lit (.int 0)) (.prim .len (.cons (.var 6) .nil)) (.prim .len (.cons (.var 2) .nil))) .nil))))) .nil))) (.cons (.unp (.tup (.cons (.var 5) (.cons (.var 6) .nil))) (.idx (.var 4) (.call .l_taken (.cons (.var 0) (.cons (.prim .len (.cons (.var 4) .nil)) .nil))))) (.cons (.set 7 false (.comp (.var 10) (.var 10) (.seq (.var 2)) (.cons (.cmp .nmem (.var 10) (.var 6)) .nil) [10])) (.cons (.par2 8 9 (.call .l_drawn (.cons (.var 0) (.cons (.var 1) (.cons (.var 7) (.cons (.bin .add (.var 3) (.tup (.cons (.lit (.int 0)) .nil))) .nil))))) (.call .l_drawn (.cons (.var 0) (.cons (.var 1) (.cons (.var 6) (.cons (.bin .add (.var 3) (.tup (.cons (.lit (.int 1)) .nil))) .nil)))))) (.cons (.ret (.tup (.cons (.tup (.cons (.lit (.str ("probe" : Str))) (.cons (.var 5) (.cons (.idx (.var 8) (.lit (.int 0))) (.cons (.idx (.var 9) (.lit (.int 0))) .nil))))) (.cons (.bin .add (.idx (.var 8) (.lit (.int 1))) (.idx (.var 9) (.lit (.int 1)))) .nil)))) .nil)))))))⟩
def d__law_odd_tree : FD := ⟨5, 12, false, (.cons (.ite (.and (.cmp .eq (.idx (.var 3) (.lit (.int 0))) (.lit (.str ("probe" : Str)))) (.cmp .gt (.call .l_taken (.cons (.var 0) (.cons (.lit (.int 3)) .nil))) (.lit (.int 0)))) (.cons (.set 5 false (.comp (.var 10) (.var 10) (.seq (.var 2)) (.cons (.cmp .ne (.comp (.var 11) (.var 11) (.seq (.idx (.var 3) (.lit (.int 1)))) (.cons (.cmp .mem (.var 11) (.var 10)) .nil) [11]) (.lst .nil)) .nil) [10])) (.cons (.set 6 false (.comp (.var 10) (.var 10) (.seq (.var 2)) (.cons (.cmp .nmem (.var 10) (.var 5)) .nil) [10])) (.cons (.ite (.cmp .eq (.call .l_taken (.cons (.var 0) (.cons (.lit (.int 2)) .nil))) (.lit (.int 0))) (.cons (.unp (.tup (.cons (.var 7) (.cons (.var 8) .nil))) (.call .l_odd_tree (.cons (.var 0) (.cons (.var 1) (.cons (.var 6) (.cons (.idx (.var 3) (.lit (.int 2))) (.cons (.bin .add (.var 4) (.tup (.cons (.lit (.int 0)) .nil))) .nil))))))) (.cons (.ret (.tup (.cons (.tup (.cons (.lit (.str ("probe" : Str))) (.cons (.idx (.var 3) (.lit (.int 1))) (.cons (.var 7) (.cons (.idx (.lst (.cons (.idx (.var 3) (.lit (.int 3))) (.cons (.lit .non) .nil))) (.call .l_taken (.cons (.var 0) (.cons (.lit (.int 2)) .nil)))) .nil))))) (.cons (.var 8) .nil)))) .nil)) .nil) (.cons (.unp (.tup (.cons (.var 7) (.cons (.var 8) .nil))) (.call .l_odd_tree (.cons (.var 0) (.cons (.var 1) (.cons (.var 5) (.cons (.idx (.var 3) (.lit (.int 3))) (.cons (.bin .add (.var 4) (.tup (.cons (.lit (.int 1)) .nil))) .nil))))))) (.cons (.ret (.tup (.cons (.tup (.cons (.lit (.str ("probe" : Str))) (.cons (.idx (.var 3) (.lit (.int 1))) (.cons (.idx (.var 3) (.lit (.int 2))) (.cons (.var 7) .nil))))) (.cons (.var 8) .nil)))) .nil))))) .nil) (.cons (.set 9 false (.lst (.cons (.tup .nil) (.cons (.lit .non) (.cons (.lit (.int 5)) (.cons (.tup (.cons (.lit (.str ("lot" : Str))) .nil)) (.cons (.tup (.cons (.lit (.str ("lots" : Str))) (.cons (.idx (.var 2) (.lit (.int 0))) .nil))) (.cons (.tup (.cons (.lit (.str ("lot" : Str))) (.cons (.idx (.var 2) (.lit (.int 0))) (.cons (.lit (.int 0)) .nil)))) (.cons (.tup (.cons (.lit (.str ("probe" : Str))) (.cons (.tup (.cons (.lit (.int 0)) .nil)) (.cons (.var 3) .nil)))) (.cons (.prim .lstOf (.cons (.var 3) .nil)) .nil)))))))))) (.cons (.set 9 false (.bin .add (.var 9) (.lst (.cons (.tup (.cons (.lit (.str ("lot" : Str))) (.cons (.tup (.cons (.lit (.int 99)) .nil)) .nil))) (.cons (.tup (.cons (.lit (.str ("probe" : Str))) (.cons (.tup .nil) (.cons (.var 3) (.cons (.var 3) .nil))))) (.cons (.tup (.cons (.lit (.str ("probe" : Str))) (.cons (.tup (.cons (.var 1) .nil)) (.cons (.var 3) (.cons (.var 3) .nil))))) .nil)))))) (.cons (.set 9 false (.bin .add (.var 9) (.lst (.cons (.tup (.cons (.lit (.str ("probe" : Str))) (.cons (.lst (.cons (.lit (.int 0)) .nil)) (.cons (.var 3) (.cons (.var 3) .nil))))) (.cons (.lit (.str ("lot" : Str))) (.cons (.tup (.cons (.lit (.int 5)) (.cons (.lit (.int 5)) .nil))) .nil)))))) (.cons (.ite (.cmp .gt (.prim .len (.cons (.var 2) .nil)) (.lit (.int 1))) (.cons (.set 9 false (.bin .add (.var 9) (.bin .mul (.lst (.cons (.tup (.cons (.lit (.str ("lot" : Str))) (.cons (.idx (.var 2) (.lit (.int 0))) .nil))) .nil)) (.lit (.int 3))))) .nil) (.cons (.set 9 false (.bin .add (.var 9) (.bin .mul (.lst (.cons (.tup (.cons (.lit (.str ("probe" : Str))) (.cons (.rgT (.cons (.var 1) .nil)) (.cons (.var 3) (.cons (.var 3) .nil))))) .nil)) (.lit (.int 3))))) .nil)) (.cons (.ret (.tup (.cons (.idx (.var 9) (.call .l_taken (.cons (.var 0) (.cons (.lit (.int 17)) .nil)))) (.cons (.var 4) .nil)))) .nil))))))⟩
def d__law_sum : FD := ⟨1, 4, true, (.cons (.unp (.tup (.cons (.var 1) (.cons (.var 2) .nil))) (.tup (.cons (.lit (.int 0)) (.cons (.lit (.int 1)) .nil)))) (.cons (.for_ (.var 3) (.seq (.var 0)) (.cons (.unp (.tup (.cons (.var 1) (.cons (.var 2) .nil))) (.call .l_part (.cons (.bin .add (.bin .mul (.var 1) (.idx (.var 3) (.lit (.int 1)))) (.bin .mul (.idx (.var 3) (.lit (.int 0))) (.var 2))) (.cons (.bin .mul (.var 2) (.idx (.var 3) (.lit (.int 1)))) .nil)))) .nil)) (.cons (.ret (.tup (.cons (.var 1) (.cons (.var 2) .nil)))) .nil)))⟩
def d__law_desk : FD := ⟨1, 2, false, (.cons (.set 1 false (.call .l_plan (.cons (.var 0) (.cons (.lit (.int 5)) (.cons (.lit (.int 5)) .nil))))) (.cons (.ite (.cmp .eq (.call .l_taken (.cons (.var 0) (.cons (.lit (.int 6)) .nil))) (.lit (.int 0))) (.cons (.set 1 false (.tup (.cons (.idx (.var 1) (.lit (.int 0))) (.cons (.bin .add (.idx (.var 1) (.lit (.int 1))) (.bin .mul (.tup (.cons (.tup (.cons (.lit (.int 0)) .nil)) .nil)) (.bin .sub (.bin .sub (.lit (.int 16)) (.prim .len (.cons (.idx (.var 1) (.lit (.int 1))) .nil))) (.call .l_taken (.cons (.var 0) (.cons (.lit (.int 2)) .nil)))))) .nil)))) .nil) .nil) (.cons (.ret (.tup (.cons (.var 1) (.cons (.call .l_taken (.cons (.var 0) (.cons (.lit (.int 4)) .nil))) (.cons (.idx (.lst (.cons (.lit (.int 0)) (.cons (.lit (.int 0)) (.cons (.lit (.int 1)) (.cons (.lit (.int 2)) .nil))))) (.call .l_taken (.cons (.var 0) (.cons (.lit (.int 4)) .nil)))) .nil))))) .nil)))⟩
def d__law_deed : FD := ⟨2, 5, false, (.cons (.par2 2 3 (.call .l_taken (.cons (.var 0) (.cons (.lit (.int 6)) .nil))) (.call .l_taken (.cons (.var 0) (.cons (.bin .add (.prim .len (.cons (.idx (.var 1) (.lit (.int 1))) .nil)) (.lit (.int 1))) .nil)))) (.cons (.ite (.cmp .lt (.var 2) (.lit (.int 3))) (.cons (.ret (.tup (.cons (.lit (.str ("tell" : Str))) (.cons (.var 3) (.cons (.idx (.lst (.cons (.lit (.int 0)) (.cons (.lit (.int 1)) (.cons (.lit .non) (.cons (.lit (.int 2)) (.cons (.lit (.int 0)) (.cons (.lit (.int 1)) (.cons (.lit (.int 1)) .nil)))))))) (.call .l_taken (.cons (.var 0) (.cons (.lit (.int 7)) .nil)))) .nil))))) .nil) .nil) (.cons (.ite (.cmp .eq (.var 2) (.lit (.int 3))) (.cons (.ret (.tup (.cons (.lit (.str ("drop" : Str))) (.cons (.var 3) .nil)))) .nil) .nil) (.cons (.set 4 false (.call .l_lot (.cons (.var 0) (.cons (.idx (.var 1) (.lit (.int 0))) .nil)))) (.cons (.ret (.tup (.cons (.lit (.str ("probe" : Str))) (.cons (.ite (.cmp .gt (.call .l_taken (.cons (.var 0) (.cons (.lit (.int 8)) .nil))) (.lit (.int 0))) (.var 4) (.idx (.lst (.cons (.tup (.cons (.idx (.var 1) (.lit (.int 0))) .nil)) (.cons (.tup (.cons (.lit (.int 0)) (.cons (.lit (.int 0)) .nil))) .nil))) (.call .l_taken (.cons (.var 0) (.cons (.lit (.int 2)) .nil))))) .nil)))) .nil)))))⟩
def d__law_done : FD := ⟨2, 7, true, (.cons (.unp (.tup (.cons (.tup (.cons (.var 2) (.cons (.var 3) .nil))) (.cons (.var 4) .nil))) (.var 0)) (.cons (.ite (.cmp .eq (.idx (.var 1) (.lit (.int 0))) (.lit (.str ("probe" : Str)))) (.cons (.ite (.cmp .eq (.prim .len (.cons (.var 3) .nil)) (.lit (.int 16))) (.cons (.ret (.tup (.cons (.lit (.str ("plan" : Str))) (.cons (.lit (.int 16)) .nil)))) .nil) .nil) (.cons (.set 5 false (.and (.cmp .ne (.idx (.var 1) (.lit (.int 1))) (.tup .nil)) (.cmp .mem (.idx (.var 1) (.lit (.int 1))) (.call .l_lots (.cons (.var 2) (.cons (.var 2) .nil)))))) (.cons (.ret (.ite (.var 5) (.tup (.cons (.lit (.str ("" : Str))) (.cons (.tup (.cons (.tup (.cons (.var 2) (.cons (.bin .add (.var 3) (.tup (.cons (.idx (.var 1) (.lit (.int 1))) .nil))) .nil))) (.cons (.bin .add (.var 4) (.tup (.cons (.lit .non) .nil))) .nil))) .nil))) (.tup (.cons (.lit (.str ("plan" : Str))) (.cons (.prim .len (.cons (.var 3) .nil)) .nil))))) .nil))) .nil) (.cons (.set 6 false (.idx (.var 1) (.lit (.int 1)))) (.cons (.ite (.or (.cmp .ge (.var 6) (.prim .len (.cons (.var 3) .nil))) (.and (.cmp .eq (.idx (.var 1) (.lit (.int 0))) (.lit (.str ("tell" : Str)))) (.cmp .eq (.idx (.var 1) (.lit (.int 2))) (.lit (.int 2))))) (.cons (.ret (.tup (.cons (.lit (.str ("count" : Str))) (.cons (.lit .non) .nil)))) .nil) .nil) (.cons (.ite (.cmp .eq (.idx (.var 1) (.lit (.int 0))) (.lit (.str ("tell" : Str)))) (.cons (.ret (.tup (.cons (.lit (.str ("" : Str))) (.cons (.tup (.cons (.idx (.var 0) (.lit (.int 0))) (.cons (.bin .add (.bin .add (.slc (.var 4) none (some (.var 6))) (.tup (.cons (.idx (.var 1) (.lit (.int 2))) .nil))) (.slc (.var 4) (some (.bin .add (.var 6) (.lit (.int 1)))) none)) .nil))) .nil)))) .nil) .nil) (.cons (.ret (.tup (.cons (.lit (.str ("" : Str))) (.cons (.tup (.cons (.tup (.cons (.var 2) (.cons (.bin .add (.slc (.var 3) none (some (.var 6))) (.slc (.var 3) (some (.bin .add (.var 6) (.lit (.int 1)))) none)) .nil))) (.cons (.bin .add (.slc (.var 4) none (some (.var 6))) (.slc (.var 4) (some (.bin .add (.var 6) (.lit (.int 1)))) none)) .nil))) .nil)))) .nil))))))⟩
def d__law_may : FD := ⟨3, 5, true, (.cons (.set 3 false (.call .l_lots (.cons (.idx (.idx (.var 0) (.lit (.int 0))) (.lit (.int 0))) (.cons (.var 1) .nil)))) (.cons (.ret (.comp (.var 4) (.var 4) (.seq (.var 3)) (.cons (.cmp .le (.call .l_slips (.cons (.idx (.var 0) (.lit (.int 1))) (.cons (.call .l_answers (.cons (.idx (.var 0) (.lit (.int 0))) (.cons (.var 4) .nil))) .nil))) (.var 2)) .nil) [4])) .nil))⟩
def d__law_due : FD := ⟨4, 6, true, (.cons (.set 4 false (.call .l_done (.cons (.var 0) (.cons (.var 1) .nil)))) (.cons (.ite (.cmp .ne (.idx (.var 4) (.lit (.int 0))) (.lit (.str ("" : Str)))) (.cons (.ret (.tup (.cons (.var 4) (.cons (.var 0) .nil)))) .nil) .nil) (.cons (.ite (.cmp .eq (.idx (.var 1) (.lit (.int 0))) (.lit (.str ("probe" : Str)))) (.cons (.ret (.tup (.cons (.tup (.cons (.lit (.str ("" : Str))) (.cons (.prim .len (.cons (.idx (.var 0) (.lit (.int 1))) .nil)) .nil))) (.cons (.idx (.var 4) (.lit (.int 1))) .nil)))) .nil) .nil) (.cons (.set 5 false (.bin .sub (.prim .len (.cons (.call .l_may (.cons (.idx (.var 4) (.lit (.int 1))) (.cons (.var 2) (.cons (.var 3) .nil)))) .nil)) (.prim .len (.cons (.call .l_may (.cons (.var 0) (.cons (.var 2) (.cons (.var 3) .nil)))) .nil)))) (.cons (.ret (.tup (.cons (.tup (.cons (.lit (.str ("" : Str))) (.cons (.var 5) .nil))) (.cons (.idx (.var 4) (.lit (.int 1))) .nil)))) .nil)))))⟩
def d__law_number : FD := ⟨1, 2, true, (.cons (.ite (.or (.not (.chain .le .le (.lit (.int 1)) (.prim .len (.cons (.var 0) .nil)) (.lit (.int 2)))) (.cmp .ne (.comp (.var 1) (.var 1) (.seq (.var 0)) (.cons (.cmp .nmem (.var 1) (.lit (.str ("0123456789" : Str)))) .nil) [1]) (.lst .nil))) (.cons (.ret (.lit .non)) .nil) .nil) (.cons (.ret (.ite (.and (.cmp .eq (.idx (.var 0) (.lit (.int 0))) (.lit (.str ("0" : Str)))) (.cmp .ne (.var 0) (.lit (.str ("0" : Str))))) (.lit .non) (.prim .intOf (.cons (.var 0) .nil)))) .nil))⟩
def d__law_all_of : FD := ⟨2, 9, true, (.cons (.unp (.tup (.cons (.var 2) (.cons (.var 3) (.cons (.var 4) .nil)))) (.var 0)) (.cons (.set 5 false (.lst (.cons (.call .could (.cons (.var 2) (.cons (.var 1) (.cons (.var 3) (.cons (.var 4) .nil))))) (.cons (.call .idle (.cons (.var 2) (.cons (.var 3) .nil))) (.cons (.call .read_tree (.cons (.lit (.int 2)) (.cons (.lit (.int 1)) (.cons (.idx (.call .best_tree (.cons (.lit (.int 2)) (.cons (.lit (.int 1)) .nil))) (.lit (.int 1))) .nil)))) .nil))))) (.cons (.set 5 false (.bin .add (.var 5) (.lst (.cons (.call .shares (.cons (.var 2) (.cons (.var 1) (.cons (.bin .mul (.tup (.cons (.lit (.int 9)) .nil)) (.idx (.var 2) (.lit (.int 0)))) (.cons (.lit (.int 9)) (.cons (.var 3) .nil)))))) (.cons (.call .each (.cons (.var 2) (.cons (.var 1) (.cons (.bin .mul (.tup (.cons (.lit (.int 9)) .nil)) (.idx (.var 2) (.lit (.int 0)))) (.cons (.lit (.int 9)) (.cons (.var 3) .nil)))))) .nil))))) (.cons (.set 6 false (.comp (.prim .lstOf (.cons (.var 7) .nil)) (.var 7) (.seq (.var 5)) .nil [7])) (.cons (.for_ (.var 7) (.seq (.var 5)) (.cons (.app 7 (.tup .nil)) .nil)) (.cons (.set 8 false (.lst (.cons (.call .apart (.cons (.var 2) (.cons (.var 3) .nil))) (.cons (.call .kinds (.cons (.var 2) (.cons (.var 3) .nil))) (.cons (.call .answers (.cons (.var 2) (.cons (.tup (.cons (.lit (.int 0)) .nil)) .nil))) (.cons (.call .best_tree (.cons (.lit (.int 3)) (.cons (.lit (.int 1)) .nil))) .nil)))))) (.cons (.ret (.bin .add (.var 6) (.lst (.cons (.bin .add (.var 8) (.lst (.cons (.call .sure (.cons (.var 2) (.cons (.var 1) (.cons (.var 3) (.cons (.lit (.int 0)) .nil))))) .nil))) .nil)))) .nil)))))))⟩
def dTab (f : Fn) : Option FD := match f with
  | .is_number => some d_is_number
  | .is_lot => some d_is_lot
  | .need_plan => some d_need_plan
  | .need_lot => some d_need_lot
  | .need_count => some d_need_count
  | .answer_of => some d_answer_of
  | .answers_of => some d_answers_of
  | .answers => some d_answers
  | .grid => some d_grid
  | .beside => some d_beside
  | .l_row => some d__law_row
  | .l_taken => some d__law_taken
  | .l_lot => some d__law_lot
  | .l_plan => some d__law_plan
  | .l_alike => some d__law_alike
  | .l_answers => some d__law_answers
  | .need_answers => some d_need_answers
  | .rising => some d_rising
  | .all_lots => some d_all_lots
  | .slips_of => some d_slips_of
  | .lots_by => some d_lots_by
  | .need_all => some d_need_all
  | .could => some d_could
  | .sure => some d_sure
  | .apart => some d_apart
  | .idle => some d_idle
  | .kinds => some d_kinds
  | .divisor => some d_divisor
  | .part => some d_part
  | .need_chances => some d_need_chances
  | .weight_of => some d_weight_of
  | .weights => some d_weights
  | .shares => some d_shares
  | .each => some d_each
  | .tells => some d_tells
  | .l_odd_plan => some d__law_odd_plan
  | .l_said => some d__law_said
  | .l_lots => some d__law_lots
  | .l_slips => some d__law_slips
  | .parted => some d_parted
  | .need_tree_counts => some d_need_tree_counts
  | .walked => some d_walked
  | .read_tree => some d_read_tree
  | .l_chances => some d__law_chances
  | .l_weights => some d__law_weights
  | .l_gcd => some d__law_gcd
  | .l_part => some d__law_part
  | .l_tells_too => some d__law_tells_too
  | .l_tree => some d__law_tree
  | .l_drawn => some d__law_drawn
  | .l_odd_tree => some d__law_odd_tree
  | .l_sum => some d__law_sum
  | .l_desk => some d__law_desk
  | .l_deed => some d__law_deed
  | .l_done => some d__law_done
  | .l_may => some d__law_may
  | .l_due => some d__law_due
  | .l_number => some d__law_number
  | .l_all_of => some d__law_all_of
  | _ => none
/-- a law's table: its own def, the shared ones -/
noncomputable def mkT (dl : FD) (lo : Nat → PySem.Addr → List (PySem.Addr × L2.HO) → Prop) : Tb := ⟨fun f => match f with
  | .law => some dl
  | f => dTab f, fun _ => none, lo⟩
section
variable {dl : FD} {lo : Nat → PySem.Addr → List (PySem.Addr × L2.HO) → Prop}
theorem call_is_number (n : Nat) (pu : Bool) (as : List D) : callN (mkT dl lo) (n + 1) pu .is_number as = runF (lk (mkT dl lo) n true) d_is_number as := by cases pu <;> rfl
theorem call_is_lot (n : Nat) (pu : Bool) (as : List D) : callN (mkT dl lo) (n + 1) pu .is_lot as = runF (lk (mkT dl lo) n true) d_is_lot as := by cases pu <;> rfl
theorem call_need_plan (n : Nat) (pu : Bool) (as : List D) : callN (mkT dl lo) (n + 1) pu .need_plan as = runF (lk (mkT dl lo) n true) d_need_plan as := by cases pu <;> rfl
theorem call_need_lot (n : Nat) (pu : Bool) (as : List D) : callN (mkT dl lo) (n + 1) pu .need_lot as = runF (lk (mkT dl lo) n true) d_need_lot as := by cases pu <;> rfl
theorem call_need_count (n : Nat) (pu : Bool) (as : List D) : callN (mkT dl lo) (n + 1) pu .need_count as = runF (lk (mkT dl lo) n true) d_need_count as := by cases pu <;> rfl
theorem call_answer_of (n : Nat) (pu : Bool) (as : List D) : callN (mkT dl lo) (n + 1) pu .answer_of as = runF (lk (mkT dl lo) n true) d_answer_of as := by cases pu <;> rfl
theorem call_answers_of (n : Nat) (pu : Bool) (as : List D) : callN (mkT dl lo) (n + 1) pu .answers_of as = runF (lk (mkT dl lo) n true) d_answers_of as := by cases pu <;> rfl
theorem call_answers (n : Nat) (pu : Bool) (as : List D) : callN (mkT dl lo) (n + 1) pu .answers as = runF (lk (mkT dl lo) n true) d_answers as := by cases pu <;> rfl
theorem call_grid (n : Nat) (pu : Bool) (as : List D) : callN (mkT dl lo) (n + 1) pu .grid as = runF (lk (mkT dl lo) n true) d_grid as := by cases pu <;> rfl
theorem call_beside (n : Nat) (pu : Bool) (as : List D) : callN (mkT dl lo) (n + 1) pu .beside as = runF (lk (mkT dl lo) n true) d_beside as := by cases pu <;> rfl
theorem call__law_row (n : Nat) (as : List D) : callN (mkT dl lo) (n + 1) false .l_row as = runF (lk (mkT dl lo) n false) d__law_row as := rfl
theorem call__law_taken (n : Nat) (as : List D) : callN (mkT dl lo) (n + 1) false .l_taken as = runF (lk (mkT dl lo) n false) d__law_taken as := rfl
theorem call__law_lot (n : Nat) (as : List D) : callN (mkT dl lo) (n + 1) false .l_lot as = runF (lk (mkT dl lo) n false) d__law_lot as := rfl
theorem call__law_plan (n : Nat) (as : List D) : callN (mkT dl lo) (n + 1) false .l_plan as = runF (lk (mkT dl lo) n false) d__law_plan as := rfl
theorem call__law_alike (n : Nat) (pu : Bool) (as : List D) : callN (mkT dl lo) (n + 1) pu .l_alike as = runF (lk (mkT dl lo) n true) d__law_alike as := by cases pu <;> rfl
theorem call__law_answers (n : Nat) (pu : Bool) (as : List D) : callN (mkT dl lo) (n + 1) pu .l_answers as = runF (lk (mkT dl lo) n true) d__law_answers as := by cases pu <;> rfl
theorem call_need_answers (n : Nat) (pu : Bool) (as : List D) : callN (mkT dl lo) (n + 1) pu .need_answers as = runF (lk (mkT dl lo) n true) d_need_answers as := by cases pu <;> rfl
theorem call_rising (n : Nat) (pu : Bool) (as : List D) : callN (mkT dl lo) (n + 1) pu .rising as = runF (lk (mkT dl lo) n true) d_rising as := by cases pu <;> rfl
theorem call_all_lots (n : Nat) (pu : Bool) (as : List D) : callN (mkT dl lo) (n + 1) pu .all_lots as = runF (lk (mkT dl lo) n true) d_all_lots as := by cases pu <;> rfl
theorem call_slips_of (n : Nat) (pu : Bool) (as : List D) : callN (mkT dl lo) (n + 1) pu .slips_of as = runF (lk (mkT dl lo) n true) d_slips_of as := by cases pu <;> rfl
theorem call_lots_by (n : Nat) (pu : Bool) (as : List D) : callN (mkT dl lo) (n + 1) pu .lots_by as = runF (lk (mkT dl lo) n true) d_lots_by as := by cases pu <;> rfl
theorem call_need_all (n : Nat) (pu : Bool) (as : List D) : callN (mkT dl lo) (n + 1) pu .need_all as = runF (lk (mkT dl lo) n true) d_need_all as := by cases pu <;> rfl
theorem call_could (n : Nat) (pu : Bool) (as : List D) : callN (mkT dl lo) (n + 1) pu .could as = runF (lk (mkT dl lo) n true) d_could as := by cases pu <;> rfl
theorem call_sure (n : Nat) (pu : Bool) (as : List D) : callN (mkT dl lo) (n + 1) pu .sure as = runF (lk (mkT dl lo) n true) d_sure as := by cases pu <;> rfl
theorem call_apart (n : Nat) (pu : Bool) (as : List D) : callN (mkT dl lo) (n + 1) pu .apart as = runF (lk (mkT dl lo) n true) d_apart as := by cases pu <;> rfl
theorem call_idle (n : Nat) (pu : Bool) (as : List D) : callN (mkT dl lo) (n + 1) pu .idle as = runF (lk (mkT dl lo) n true) d_idle as := by cases pu <;> rfl
theorem call_kinds (n : Nat) (pu : Bool) (as : List D) : callN (mkT dl lo) (n + 1) pu .kinds as = runF (lk (mkT dl lo) n true) d_kinds as := by cases pu <;> rfl
theorem call_divisor (n : Nat) (pu : Bool) (as : List D) : callN (mkT dl lo) (n + 1) pu .divisor as = runF (lk (mkT dl lo) n true) d_divisor as := by cases pu <;> rfl
theorem call_part (n : Nat) (pu : Bool) (as : List D) : callN (mkT dl lo) (n + 1) pu .part as = runF (lk (mkT dl lo) n true) d_part as := by cases pu <;> rfl
theorem call_need_chances (n : Nat) (pu : Bool) (as : List D) : callN (mkT dl lo) (n + 1) pu .need_chances as = runF (lk (mkT dl lo) n true) d_need_chances as := by cases pu <;> rfl
theorem call_weight_of (n : Nat) (pu : Bool) (as : List D) : callN (mkT dl lo) (n + 1) pu .weight_of as = runF (lk (mkT dl lo) n true) d_weight_of as := by cases pu <;> rfl
theorem call_weights (n : Nat) (pu : Bool) (as : List D) : callN (mkT dl lo) (n + 1) pu .weights as = runF (lk (mkT dl lo) n true) d_weights as := by cases pu <;> rfl
theorem call_shares (n : Nat) (pu : Bool) (as : List D) : callN (mkT dl lo) (n + 1) pu .shares as = runF (lk (mkT dl lo) n true) d_shares as := by cases pu <;> rfl
theorem call_each (n : Nat) (pu : Bool) (as : List D) : callN (mkT dl lo) (n + 1) pu .each as = runF (lk (mkT dl lo) n true) d_each as := by cases pu <;> rfl
theorem call_tells (n : Nat) (pu : Bool) (as : List D) : callN (mkT dl lo) (n + 1) pu .tells as = runF (lk (mkT dl lo) n true) d_tells as := by cases pu <;> rfl
theorem call__law_odd_plan (n : Nat) (as : List D) : callN (mkT dl lo) (n + 1) false .l_odd_plan as = runF (lk (mkT dl lo) n false) d__law_odd_plan as := rfl
theorem call__law_said (n : Nat) (as : List D) : callN (mkT dl lo) (n + 1) false .l_said as = runF (lk (mkT dl lo) n false) d__law_said as := rfl
theorem call__law_lots (n : Nat) (pu : Bool) (as : List D) : callN (mkT dl lo) (n + 1) pu .l_lots as = runF (lk (mkT dl lo) n true) d__law_lots as := by cases pu <;> rfl
theorem call__law_slips (n : Nat) (pu : Bool) (as : List D) : callN (mkT dl lo) (n + 1) pu .l_slips as = runF (lk (mkT dl lo) n true) d__law_slips as := by cases pu <;> rfl
theorem call_parted (n : Nat) (pu : Bool) (as : List D) : callN (mkT dl lo) (n + 1) pu .parted as = runF (lk (mkT dl lo) n true) d_parted as := by cases pu <;> rfl
theorem call_need_tree_counts (n : Nat) (pu : Bool) (as : List D) : callN (mkT dl lo) (n + 1) pu .need_tree_counts as = runF (lk (mkT dl lo) n true) d_need_tree_counts as := by cases pu <;> rfl
theorem call_walked (n : Nat) (pu : Bool) (as : List D) : callN (mkT dl lo) (n + 1) pu .walked as = runF (lk (mkT dl lo) n true) d_walked as := by cases pu <;> rfl
theorem call_read_tree (n : Nat) (pu : Bool) (as : List D) : callN (mkT dl lo) (n + 1) pu .read_tree as = runF (lk (mkT dl lo) n true) d_read_tree as := by cases pu <;> rfl
theorem call__law_chances (n : Nat) (as : List D) : callN (mkT dl lo) (n + 1) false .l_chances as = runF (lk (mkT dl lo) n false) d__law_chances as := rfl
theorem call__law_weights (n : Nat) (pu : Bool) (as : List D) : callN (mkT dl lo) (n + 1) pu .l_weights as = runF (lk (mkT dl lo) n true) d__law_weights as := by cases pu <;> rfl
theorem call__law_gcd (n : Nat) (pu : Bool) (as : List D) : callN (mkT dl lo) (n + 1) pu .l_gcd as = runF (lk (mkT dl lo) n true) d__law_gcd as := by cases pu <;> rfl
theorem call__law_part (n : Nat) (pu : Bool) (as : List D) : callN (mkT dl lo) (n + 1) pu .l_part as = runF (lk (mkT dl lo) n true) d__law_part as := by cases pu <;> rfl
theorem call__law_tells_too (n : Nat) (pu : Bool) (as : List D) : callN (mkT dl lo) (n + 1) pu .l_tells_too as = runF (lk (mkT dl lo) n true) d__law_tells_too as := by cases pu <;> rfl
theorem call__law_tree (n : Nat) (as : List D) : callN (mkT dl lo) (n + 1) false .l_tree as = runF (lk (mkT dl lo) n false) d__law_tree as := rfl
theorem call__law_drawn (n : Nat) (as : List D) : callN (mkT dl lo) (n + 1) false .l_drawn as = runF (lk (mkT dl lo) n false) d__law_drawn as := rfl
theorem call__law_odd_tree (n : Nat) (as : List D) : callN (mkT dl lo) (n + 1) false .l_odd_tree as = runF (lk (mkT dl lo) n false) d__law_odd_tree as := rfl
theorem call__law_sum (n : Nat) (pu : Bool) (as : List D) : callN (mkT dl lo) (n + 1) pu .l_sum as = runF (lk (mkT dl lo) n true) d__law_sum as := by cases pu <;> rfl
theorem call__law_desk (n : Nat) (as : List D) : callN (mkT dl lo) (n + 1) false .l_desk as = runF (lk (mkT dl lo) n false) d__law_desk as := rfl
theorem call__law_deed (n : Nat) (as : List D) : callN (mkT dl lo) (n + 1) false .l_deed as = runF (lk (mkT dl lo) n false) d__law_deed as := rfl
theorem call__law_done (n : Nat) (pu : Bool) (as : List D) : callN (mkT dl lo) (n + 1) pu .l_done as = runF (lk (mkT dl lo) n true) d__law_done as := by cases pu <;> rfl
theorem call__law_may (n : Nat) (pu : Bool) (as : List D) : callN (mkT dl lo) (n + 1) pu .l_may as = runF (lk (mkT dl lo) n true) d__law_may as := by cases pu <;> rfl
theorem call__law_due (n : Nat) (pu : Bool) (as : List D) : callN (mkT dl lo) (n + 1) pu .l_due as = runF (lk (mkT dl lo) n true) d__law_due as := by cases pu <;> rfl
theorem call__law_number (n : Nat) (pu : Bool) (as : List D) : callN (mkT dl lo) (n + 1) pu .l_number as = runF (lk (mkT dl lo) n true) d__law_number as := by cases pu <;> rfl
theorem call__law_all_of (n : Nat) (pu : Bool) (as : List D) : callN (mkT dl lo) (n + 1) pu .l_all_of as = runF (lk (mkT dl lo) n true) d__law_all_of as := by cases pu <;> rfl
end
end Pb
end

section
set_option Elab.async false
set_option linter.all false
set_option maxRecDepth 100000
set_option maxHeartbeats 4000000
namespace Pk
open PySem PySem.Spec PyProof.Rows L2 Pb
/-! ### the text by places -/
def top (i : Nat) : Stmt := PySem.Challenge.pw_probelots_k09_trees_read.main.body.getD i (.Pass ⟨0, 0, 0, 0⟩)
abbrev s_is_number : Stmt := top 15
abbrev s_is_lot : Stmt := top 16
abbrev s_need_count : Stmt := top 17
abbrev s_rising : Stmt := top 18
abbrev s_all_lots : Stmt := top 19
abbrev s_answer_of : Stmt := top 20
abbrev s_parted : Stmt := top 22
abbrev s_need_tree_counts : Stmt := top 23
abbrev s_walked : Stmt := top 24
abbrev s_read_tree : Stmt := top 25
abbrev s__law_row : Stmt := top 27
abbrev s__law_taken : Stmt := top 28
abbrev s__law_lots : Stmt := top 29
abbrev s__law_lot : Stmt := top 30
abbrev s__law_drawn : Stmt := top 31
abbrev s__law_alike : Stmt := top 32
abbrev s__law_odd_tree : Stmt := top 33
abbrev s_law : Stmt := top 35
abbrev s__law_word : Stmt := top 34
/-! ### the core -/
def d_law : FD := ⟨1, 12, false, (.cons (.set 1 false (.call .l_row (.cons (.var 0) .nil))) (.cons (.for_ (.var 2) (.rng (.cons (.lit (.int 3)) .nil)) (.cons (.unp (.tup (.cons (.var 3) (.cons (.var 4) .nil))) (.idx (.lst (.cons (.tup (.cons (.lit (.int 2)) (.cons (.lit (.int 1)) .nil))) (.cons (.tup (.cons (.lit (.int 3)) (.cons (.lit (.int 1)) .nil))) (.cons (.tup (.cons (.lit (.int 3)) (.cons (.lit (.int 2)) .nil))) (.cons (.tup (.cons (.lit (.int 4)) (.cons (.lit (.int 1)) .nil))) (.cons (.tup (.cons (.lit (.int 2)) (.cons (.lit (.int 2)) .nil))) (.cons (.tup (.cons (.lit (.int 5)) (.cons (.lit (.int 1)) .nil))) (.cons (.tup (.cons (.lit (.int 3)) (.cons (.lit (.int 3)) .nil))) (.cons (.tup (.cons (.lit (.int 10)) (.cons (.lit (.int 1)) .nil))) .nil))))))))) (.call .l_taken (.cons (.var 1) (.cons (.lit (.int 8)) .nil))))) (.cons (.set 5 false (.call .l_lots (.cons (.var 3) (.cons (.var 4) .nil)))) (.cons (.unp (.tup (.cons (.var 6) (.cons (.var 7) .nil))) (.call .l_drawn (.cons (.var 1) (.cons (.var 3) (.cons (.var 5) (.cons (.tup .nil) .nil)))))) (.cons (.for_ (.var 8) (.rng (.cons (.lit (.int 2)) .nil)) (.cons (.set 9 true (.call .read_tree (.cons (.var 3) (.cons (.var 4) (.cons (.var 6) .nil))))) (.cons (.ite (.not (.callb .l_alike (.cons (.bor 9) (.cons (.sortk .fst (.var 7)) .nil)))) (.cons (.ret (.lit (.bool false))) .nil) .nil) (.cons (.app 9 (.tup .nil)) .nil)))) (.cons (.unp (.tup (.cons (.var 10) (.cons (.var 11) .nil))) (.call .l_odd_tree (.cons (.var 1) (.cons (.var 3) (.cons (.var 5) (.cons (.var 6) (.cons (.tup .nil) .nil))))))) (.cons (.ite (.not (.call .l_alike (.cons (.word (.call .read_tree (.cons (.var 3) (.cons (.var 4) (.cons (.var 10) .nil))))) (.cons (.tup (.cons (.lit (.str ("tree" : Str))) (.cons (.var 11) .nil))) .nil)))) (.cons (.ret (.lit (.bool false))) .nil) .nil) .nil))))))) (.cons (.ret (.lit (.bool true))) .nil)))⟩
noncomputable abbrev Tt : Tb := mkT d_law (fun _ _ _ => False)
theorem call_law (n : Nat) (as : List D) : callN Tt (n + 1) false .law as = runF (lk Tt n false) d_law as := rfl
def tfQ : List (He.Defn × Str) := [((("read_tree" : Str), none), ("read_tree.<locals>.<lambda>" : Str)), ((("_law_lots" : Str), none), ("_law_lots.<locals>.<lambda>" : Str)), ((("law" : Str), none), ("law.<locals>.<lambda>" : Str))]
def caK (K : PySem.W.Frag) : Ca := { cls := ecAt K, tabs := tfQ.map fun q => ((He.cT K q.1).2, q.2) }
theorem tm_read_tree {K : PySem.W.Frag} : ((He.cT K (("read_tree" : Str), none)).2, ("read_tree.<locals>.<lambda>" : Str)) ∈ (caK K).tabs := List.mem_map.mpr ⟨((("read_tree" : Str), none), ("read_tree.<locals>.<lambda>" : Str)), by simp [tfQ], rfl⟩
theorem th_read_tree {K : PySem.W.Frag} (h : ((caK K).tabs.map (·.1)).Nodup) : ∀ p ∈ (caK K).tabs, p.1 = (He.cT K (("read_tree" : Str), none)).2 → p.2 = ("read_tree.<locals>.<lambda>" : Str) := fun p hp e => by rw [tab_uniq h hp (tm_read_tree (K := K)) e]
theorem tm__law_lots {K : PySem.W.Frag} : ((He.cT K (("_law_lots" : Str), none)).2, ("_law_lots.<locals>.<lambda>" : Str)) ∈ (caK K).tabs := List.mem_map.mpr ⟨((("_law_lots" : Str), none), ("_law_lots.<locals>.<lambda>" : Str)), by simp [tfQ], rfl⟩
theorem th__law_lots {K : PySem.W.Frag} (h : ((caK K).tabs.map (·.1)).Nodup) : ∀ p ∈ (caK K).tabs, p.1 = (He.cT K (("_law_lots" : Str), none)).2 → p.2 = ("_law_lots.<locals>.<lambda>" : Str) := fun p hp e => by rw [tab_uniq h hp (tm__law_lots (K := K)) e]
theorem tm_law {K : PySem.W.Frag} : ((He.cT K (("law" : Str), none)).2, ("law.<locals>.<lambda>" : Str)) ∈ (caK K).tabs := List.mem_map.mpr ⟨((("law" : Str), none), ("law.<locals>.<lambda>" : Str)), by simp [tfQ], rfl⟩
theorem th_law {K : PySem.W.Frag} (h : ((caK K).tabs.map (·.1)).Nodup) : ∀ p ∈ (caK K).tabs, p.1 = (He.cT K (("law" : Str), none)).2 → p.2 = ("law.<locals>.<lambda>" : Str) := fun p hp e => by rw [tab_uniq h hp (tm_law (K := K)) e]
/-! ### what the top has left -/
structure Facts (K : PySem.W.Frag) (mg : Str → Option Value) where
  fd_is_number : FuncData
  F_is_number : FunD K ("is_number" : Str) ("is_number" : Str) (defArgs s_is_number) (defBody s_is_number) (defScope s_is_number) [] [] (He.fAd K (("is_number" : Str), none)) fd_is_number
  m_is_number : mg ("is_number" : Str) = some (.ref (He.fAd K (("is_number" : Str), none)))
  fd_is_lot : FuncData
  F_is_lot : FunD K ("is_lot" : Str) ("is_lot" : Str) (defArgs s_is_lot) (defBody s_is_lot) (defScope s_is_lot) [] [] (He.fAd K (("is_lot" : Str), none)) fd_is_lot
  m_is_lot : mg ("is_lot" : Str) = some (.ref (He.fAd K (("is_lot" : Str), none)))
  fd_need_count : FuncData
  F_need_count : FunD K ("need_count" : Str) ("need_count" : Str) (defArgs s_need_count) (defBody s_need_count) (defScope s_need_count) [] [] (He.fAd K (("need_count" : Str), none)) fd_need_count
  m_need_count : mg ("need_count" : Str) = some (.ref (He.fAd K (("need_count" : Str), none)))
  fd_rising : FuncData
  F_rising : FunD K ("rising" : Str) ("rising" : Str) (defArgs s_rising) (defBody s_rising) (defScope s_rising) [] [] (He.fAd K (("rising" : Str), none)) fd_rising
  m_rising : mg ("rising" : Str) = some (.ref (He.fAd K (("rising" : Str), none)))
  fd_all_lots : FuncData
  F_all_lots : FunD K ("all_lots" : Str) ("all_lots" : Str) (defArgs s_all_lots) (defBody s_all_lots) (defScope s_all_lots) [] [] (He.fAd K (("all_lots" : Str), none)) fd_all_lots
  m_all_lots : mg ("all_lots" : Str) = some (.ref (He.fAd K (("all_lots" : Str), none)))
  fd_answer_of : FuncData
  F_answer_of : FunD K ("answer_of" : Str) ("answer_of" : Str) (defArgs s_answer_of) (defBody s_answer_of) (defScope s_answer_of) [] [] (He.fAd K (("answer_of" : Str), none)) fd_answer_of
  m_answer_of : mg ("answer_of" : Str) = some (.ref (He.fAd K (("answer_of" : Str), none)))
  fd_parted : FuncData
  F_parted : FunD K ("parted" : Str) ("parted" : Str) (defArgs s_parted) (defBody s_parted) (defScope s_parted) [] [] (He.fAd K (("parted" : Str), none)) fd_parted
  m_parted : mg ("parted" : Str) = some (.ref (He.fAd K (("parted" : Str), none)))
  fd_need_tree_counts : FuncData
  F_need_tree_counts : FunD K ("need_tree_counts" : Str) ("need_tree_counts" : Str) (defArgs s_need_tree_counts) (defBody s_need_tree_counts) (defScope s_need_tree_counts) [] [] (He.fAd K (("need_tree_counts" : Str), none)) fd_need_tree_counts
  m_need_tree_counts : mg ("need_tree_counts" : Str) = some (.ref (He.fAd K (("need_tree_counts" : Str), none)))
  fd_walked : FuncData
  F_walked : FunD K ("walked" : Str) ("walked" : Str) (defArgs s_walked) (defBody s_walked) (defScope s_walked) [] [] (He.fAd K (("walked" : Str), none)) fd_walked
  m_walked : mg ("walked" : Str) = some (.ref (He.fAd K (("walked" : Str), none)))
  fd_read_tree : FuncData
  F_read_tree : FunD K ("read_tree" : Str) ("read_tree" : Str) (defArgs s_read_tree) (defBody s_read_tree) (defScope s_read_tree) [] [] (He.fAd K (("read_tree" : Str), none)) fd_read_tree
  m_read_tree : mg ("read_tree" : Str) = some (.ref (He.fAd K (("read_tree" : Str), none)))
  fd__law_row : FuncData
  F__law_row : FunD K ("_law_row" : Str) ("_law_row" : Str) (defArgs s__law_row) (defBody s__law_row) (defScope s__law_row) [] [] (He.fAd K (("_law_row" : Str), none)) fd__law_row
  m__law_row : mg ("_law_row" : Str) = some (.ref (He.fAd K (("_law_row" : Str), none)))
  fd__law_taken : FuncData
  F__law_taken : FunD K ("_law_taken" : Str) ("_law_taken" : Str) (defArgs s__law_taken) (defBody s__law_taken) (defScope s__law_taken) [] [] (He.fAd K (("_law_taken" : Str), none)) fd__law_taken
  m__law_taken : mg ("_law_taken" : Str) = some (.ref (He.fAd K (("_law_taken" : Str), none)))
  fd__law_lots : FuncData
  F__law_lots : FunD K ("_law_lots" : Str) ("_law_lots" : Str) (defArgs s__law_lots) (defBody s__law_lots) (defScope s__law_lots) [] [] (He.fAd K (("_law_lots" : Str), none)) fd__law_lots
  m__law_lots : mg ("_law_lots" : Str) = some (.ref (He.fAd K (("_law_lots" : Str), none)))
  fd__law_lot : FuncData
  F__law_lot : FunD K ("_law_lot" : Str) ("_law_lot" : Str) (defArgs s__law_lot) (defBody s__law_lot) (defScope s__law_lot) [] [] (He.fAd K (("_law_lot" : Str), none)) fd__law_lot
  m__law_lot : mg ("_law_lot" : Str) = some (.ref (He.fAd K (("_law_lot" : Str), none)))
  fd__law_drawn : FuncData
  F__law_drawn : FunD K ("_law_drawn" : Str) ("_law_drawn" : Str) (defArgs s__law_drawn) (defBody s__law_drawn) (defScope s__law_drawn) [] [] (He.fAd K (("_law_drawn" : Str), none)) fd__law_drawn
  m__law_drawn : mg ("_law_drawn" : Str) = some (.ref (He.fAd K (("_law_drawn" : Str), none)))
  fd__law_alike : FuncData
  F__law_alike : FunD K ("_law_alike" : Str) ("_law_alike" : Str) (defArgs s__law_alike) (defBody s__law_alike) (defScope s__law_alike) [] [] (He.fAd K (("_law_alike" : Str), none)) fd__law_alike
  m__law_alike : mg ("_law_alike" : Str) = some (.ref (He.fAd K (("_law_alike" : Str), none)))
  fd__law_odd_tree : FuncData
  F__law_odd_tree : FunD K ("_law_odd_tree" : Str) ("_law_odd_tree" : Str) (defArgs s__law_odd_tree) (defBody s__law_odd_tree) (defScope s__law_odd_tree) [] [] (He.fAd K (("_law_odd_tree" : Str), none)) fd__law_odd_tree
  m__law_odd_tree : mg ("_law_odd_tree" : Str) = some (.ref (He.fAd K (("_law_odd_tree" : Str), none)))
  fd_law : FuncData
  F_law : FunD K ("law" : Str) ("law" : Str) (defArgs s_law) (defBody s_law) (defScope s_law) [] [] (He.fAd K (("law" : Str), none)) fd_law
  m_law : mg ("law" : Str) = some (.ref (He.fAd K (("law" : Str), none)))
  fd__law_word : FuncData
  F__law_word : FunD K ("_law_word" : Str) ("_law_word" : Str) (defArgs s__law_word) (defBody s__law_word) (defScope s__law_word) [] [] (He.fAd K (("_law_word" : Str), none)) fd__law_word
  m__law_word : mg ("_law_word" : Str) = some (.ref (He.fAd K (("_law_word" : Str), none)))
  f_ValueError : mg ("ValueError" : Str) = none
  f_all : mg ("all" : Str) = none
  f_any : mg ("any" : Str) = none
  f_bool : mg ("bool" : Str) = none
  f_int : mg ("int" : Str) = none
  f_isinstance : mg ("isinstance" : Str) = none
  f_len : mg ("len" : Str) = none
  f_list : mg ("list" : Str) = none
  f_min : mg ("min" : Str) = none
  f_range : mg ("range" : Str) = none
  f_sorted : mg ("sorted" : Str) = none
  f_str : mg ("str" : Str) = none
  f_tuple : mg ("tuple" : Str) = none
  i_MOST_THINGS : ∃ t, mg ("MOST_THINGS" : Str) = some (.int 10 t)
  i_MOST_BAD : ∃ t, mg ("MOST_BAD" : Str) = some (.int 3 t)
  c_BadPlan : mg ("BadPlan" : Str) = some (.ref (ecAt K .badPlan))
  c_BadAnswers : mg ("BadAnswers" : Str) = some (.ref (ecAt K .badAnswers))
  c_BadLot : mg ("BadLot" : Str) = some (.ref (ecAt K .badLot))
  c_BadCount : mg ("BadCount" : Str) = some (.ref (ecAt K .badCount))
  c_BadChances : mg ("BadChances" : Str) = some (.ref (ecAt K .badChances))
  c_NoLot : mg ("NoLot" : Str) = some (.ref (ecAt K .noLot))
  c_BadTree : mg ("BadTree" : Str) = some (.ref (ecAt K .badTree))
  c_BadDeed : mg ("BadDeed" : Str) = some (.ref (ecAt K .badDeed))
  c_Halted : mg ("Halted" : Str) = some (.ref (ecAt K .halted))
  c_BadText : mg ("BadText" : Str) = some (.ref (ecAt K .badText))
  c_ProbeError : mg "ProbeError" = some (.ref (He.ga K "ProbeError"))
  x_BadCount : Rz0 K mg .badCount
  x_BadTree : Rz1 K mg .badTree
  W : WF K (ecAt K) ∧ ∀ c, PySem.W.exmOne K (.ref (ecAt K c)) (.ref (He.ga K "ProbeError")) = some true
  nq : ((caK K).tabs.map (·.1)).Nodup
section
variable {P : Program} {w : World} {K : PySem.W.Frag} {mg : Str → Option Value} {base : Heap}
theorem Facts.b_is_number (D : Facts K mg) : Binds K D.fd_is_number [("part" : Str), ("low" : Str), ("high" : Str)] [] := FunD.bindsN D.F_is_number fun _ _ _ _ _ _ us hl => match us, hl with | [_, _, _], _ => rfl
theorem Facts.b_is_lot (D : Facts K mg) : Binds K D.fd_is_lot [("part" : Str), ("things" : Str)] [] := FunD.bindsN D.F_is_lot fun _ _ _ _ _ _ us hl => match us, hl with | [_, _], _ => rfl
theorem Facts.b_need_count (D : Facts K mg) : Binds K D.fd_need_count [("number" : Str), ("low" : Str), ("high" : Str)] [] := FunD.bindsN D.F_need_count fun _ _ _ _ _ _ us hl => match us, hl with | [_, _, _], _ => rfl
theorem Facts.b_rising (D : Facts K mg) : Binds K D.fd_rising [("things" : Str), ("many" : Str), ("low" : Str)] [] := FunD.bindsN D.F_rising fun _ _ _ _ _ _ us hl => match us, hl with | [_, _, _], _ => rfl
theorem Facts.b_all_lots (D : Facts K mg) : Binds K D.fd_all_lots [("things" : Str), ("most" : Str)] [] := FunD.bindsN D.F_all_lots fun _ _ _ _ _ _ us hl => match us, hl with | [_, _], _ => rfl
theorem Facts.b_answer_of (D : Facts K mg) : Binds K D.fd_answer_of [("probe" : Str), ("lot" : Str)] [] := FunD.bindsN D.F_answer_of fun _ _ _ _ _ _ us hl => match us, hl with | [_, _], _ => rfl
theorem Facts.b_parted (D : Facts K mg) : Binds K D.fd_parted [("lots" : Str), ("probe" : Str)] [] := FunD.bindsN D.F_parted fun _ _ _ _ _ _ us hl => match us, hl with | [_, _], _ => rfl
theorem Facts.b_need_tree_counts (D : Facts K mg) : Binds K D.fd_need_tree_counts [("things" : Str), ("most" : Str)] [] := FunD.bindsN D.F_need_tree_counts fun _ _ _ _ _ _ us hl => match us, hl with | [_, _], _ => rfl
theorem Facts.b_walked (D : Facts K mg) : Binds K D.fd_walked [("things" : Str), ("lots" : Str), ("tree" : Str), ("way" : Str)] [] := FunD.bindsN D.F_walked fun _ _ _ _ _ _ us hl => match us, hl with | [_, _, _, _], _ => rfl
theorem Facts.b_read_tree (D : Facts K mg) : Binds K D.fd_read_tree [("things" : Str), ("most" : Str), ("tree" : Str)] [] := FunD.bindsN D.F_read_tree fun _ _ _ _ _ _ us hl => match us, hl with | [_, _, _], _ => rfl
theorem Facts.b__law_row (D : Facts K mg) : Binds K D.fd__law_row [("_law_script" : Str)] [] := FunD.bindsN D.F__law_row fun _ _ _ _ _ _ us hl => match us, hl with | [_], _ => rfl
theorem Facts.b__law_taken (D : Facts K mg) : Binds K D.fd__law_taken [("_law_row_here" : Str), ("_law_many" : Str)] [] := FunD.bindsN D.F__law_taken fun _ _ _ _ _ _ us hl => match us, hl with | [_, _], _ => rfl
theorem Facts.b__law_lots (D : Facts K mg) : Binds K D.fd__law_lots [("_law_things" : Str), ("_law_most" : Str)] [] := FunD.bindsN D.F__law_lots fun _ _ _ _ _ _ us hl => match us, hl with | [_, _], _ => rfl
theorem Facts.b__law_lot (D : Facts K mg) : Binds K D.fd__law_lot [("_law_row_here" : Str), ("_law_things" : Str)] [] := FunD.bindsN D.F__law_lot fun _ _ _ _ _ _ us hl => match us, hl with | [_, _], _ => rfl
theorem Facts.b__law_drawn (D : Facts K mg) : Binds K D.fd__law_drawn [("_law_row_here" : Str), ("_law_things" : Str), ("_law_lots_here" : Str), ("_law_way" : Str)] [] := FunD.bindsN D.F__law_drawn fun _ _ _ _ _ _ us hl => match us, hl with | [_, _, _, _], _ => rfl
theorem Facts.b__law_alike (D : Facts K mg) : Binds K D.fd__law_alike [("_law_found" : Str), ("_law_due" : Str)] [] := FunD.bindsN D.F__law_alike fun _ _ _ _ _ _ us hl => match us, hl with | [_, _], _ => rfl
theorem Facts.b__law_odd_tree (D : Facts K mg) : Binds K D.fd__law_odd_tree [("_law_row_here" : Str), ("_law_things" : Str), ("_law_lots_here" : Str), ("_law_tree" : Str), ("_law_way" : Str)] [] := FunD.bindsN D.F__law_odd_tree fun _ _ _ _ _ _ us hl => match us, hl with | [_, _, _, _, _], _ => rfl
theorem Facts.b_law (D : Facts K mg) : Binds K D.fd_law [("_law_script" : Str)] [] := FunD.bindsN D.F_law fun _ _ _ _ _ _ us hl => match us, hl with | [_], _ => rfl
structure AllF (D : Facts K mg) (P : Program) (w : World) (base : Heap) (n : Nat) : Prop where
  is_number : FnAt P w K mg base (caK K) Tt n ("is_number" : Str) .is_number true (He.fAd K (("is_number" : Str), none)) D.fd_is_number [("part" : Str), ("low" : Str), ("high" : Str)]
  is_lot : FnAt P w K mg base (caK K) Tt n ("is_lot" : Str) .is_lot true (He.fAd K (("is_lot" : Str), none)) D.fd_is_lot [("part" : Str), ("things" : Str)]
  need_count : FnAt P w K mg base (caK K) Tt n ("need_count" : Str) .need_count true (He.fAd K (("need_count" : Str), none)) D.fd_need_count [("number" : Str), ("low" : Str), ("high" : Str)]
  rising : FnAt P w K mg base (caK K) Tt n ("rising" : Str) .rising true (He.fAd K (("rising" : Str), none)) D.fd_rising [("things" : Str), ("many" : Str), ("low" : Str)]
  all_lots : FnAt P w K mg base (caK K) Tt n ("all_lots" : Str) .all_lots true (He.fAd K (("all_lots" : Str), none)) D.fd_all_lots [("things" : Str), ("most" : Str)]
  answer_of : FnAt P w K mg base (caK K) Tt n ("answer_of" : Str) .answer_of true (He.fAd K (("answer_of" : Str), none)) D.fd_answer_of [("probe" : Str), ("lot" : Str)]
  parted : FnAt P w K mg base (caK K) Tt n ("parted" : Str) .parted true (He.fAd K (("parted" : Str), none)) D.fd_parted [("lots" : Str), ("probe" : Str)]
  need_tree_counts : FnAt P w K mg base (caK K) Tt n ("need_tree_counts" : Str) .need_tree_counts true (He.fAd K (("need_tree_counts" : Str), none)) D.fd_need_tree_counts [("things" : Str), ("most" : Str)]
  walked : FnAt P w K mg base (caK K) Tt n ("walked" : Str) .walked true (He.fAd K (("walked" : Str), none)) D.fd_walked [("things" : Str), ("lots" : Str), ("tree" : Str), ("way" : Str)]
  read_tree : FnAt P w K mg base (caK K) Tt n ("read_tree" : Str) .read_tree true (He.fAd K (("read_tree" : Str), none)) D.fd_read_tree [("things" : Str), ("most" : Str), ("tree" : Str)]
  _law_row : FnAt P w K mg base (caK K) Tt n ("_law_row" : Str) .l_row false (He.fAd K (("_law_row" : Str), none)) D.fd__law_row [("_law_script" : Str)]
  _law_taken : FnAt P w K mg base (caK K) Tt n ("_law_taken" : Str) .l_taken false (He.fAd K (("_law_taken" : Str), none)) D.fd__law_taken [("_law_row_here" : Str), ("_law_many" : Str)]
  _law_lots : FnAt P w K mg base (caK K) Tt n ("_law_lots" : Str) .l_lots true (He.fAd K (("_law_lots" : Str), none)) D.fd__law_lots [("_law_things" : Str), ("_law_most" : Str)]
  _law_lot : FnAt P w K mg base (caK K) Tt n ("_law_lot" : Str) .l_lot false (He.fAd K (("_law_lot" : Str), none)) D.fd__law_lot [("_law_row_here" : Str), ("_law_things" : Str)]
  _law_drawn : FnAt P w K mg base (caK K) Tt n ("_law_drawn" : Str) .l_drawn false (He.fAd K (("_law_drawn" : Str), none)) D.fd__law_drawn [("_law_row_here" : Str), ("_law_things" : Str), ("_law_lots_here" : Str), ("_law_way" : Str)]
  _law_alike : FnAt P w K mg base (caK K) Tt n ("_law_alike" : Str) .l_alike true (He.fAd K (("_law_alike" : Str), none)) D.fd__law_alike [("_law_found" : Str), ("_law_due" : Str)]
  _law_odd_tree : FnAt P w K mg base (caK K) Tt n ("_law_odd_tree" : Str) .l_odd_tree false (He.fAd K (("_law_odd_tree" : Str), none)) D.fd__law_odd_tree [("_law_row_here" : Str), ("_law_things" : Str), ("_law_lots_here" : Str), ("_law_tree" : Str), ("_law_way" : Str)]
  law : FnAt P w K mg base (caK K) Tt n ("law" : Str) .law false (He.fAd K (("law" : Str), none)) D.fd_law [("_law_script" : Str)]
def N__law_word : List Str := [("_law_work" : Str), ("_law_found" : Str), ("e" : Str), ("_law_sorts" : Str), ("_law_names" : Str), ("_law_name" : Str)]
theorem nd__law_word : N__law_word.Nodup := by decide +kernel
theorem sc__law_word : FnScope N__law_word [("_law_work" : Str)] (defScope s__law_word) := ⟨by kernel_rfl, by kernel_rfl, by kernel_rfl, nd__law_word, by kernel_rfl, by decide +kernel, by decide +kernel⟩
def wSuite (b : List Stmt) : List Stmt := match b with | _ :: .Try _ (.ExceptHandler _ _ h _ :: _) _ _ _ :: _ => h | _ => []
theorem su_word (D : Facts K mg) {P : Program} {w : World} {base : Heap} {cdv : Value} {A : Around} {st : List Env} {s : Shared} {H : Hp} {ca : Ca} {M0 : Addr → Prop} {c : Ec} {fs : List Pb.D} {ad : Addr} {oe : Obj} {cv : Value} {d : Option Addr} {pn : List (Addr × Obj)} (hu : A.units + 200 < cLine) (S : SuX (ecAt K) ca c fs cv d oe) :
    SB ((cxOf C8.CX0 P w K mg base N__law_word "_law_word" (defScope s__law_word) (He.fAd K ("_law_word", none)) cdv A st s H C8.E0).suite ad ((ad, oe) :: pn)) ca (fun _ _ _ => False) M0 Lw (wSuite (defBody s__law_word)) (wordB c ad fs) :=
  have W := D.W
  (sb_cons (g_set rfl nd__law_word (by kernel_rfl) rfl (snd_lst (ga_cons rfl (w_isC (k := .badPlan) W.1 S D.c_BadPlan D.f_isinstance (by kernel_rfl) (by kernel_rfl) (by kernel_rfl)) (ga_cons rfl (w_isC (k := .badAnswers) W.1 S D.c_BadAnswers D.f_isinstance (by kernel_rfl) (by kernel_rfl) (by kernel_rfl)) (ga_cons rfl (w_isC (k := .badChances) W.1 S D.c_BadChances D.f_isinstance (by kernel_rfl) (by kernel_rfl) (by kernel_rfl)) (ga_cons rfl (w_isC (k := .badDeed) W.1 S D.c_BadDeed D.f_isinstance (by kernel_rfl) (by kernel_rfl) (by kernel_rfl)) sa_nil))))))
    (sb_cons (g_set rfl nd__law_word (by kernel_rfl) rfl (snd_bin (op := .add) (g_var (by kernel_rfl)) (snd_lst (ga_cons rfl (w_isC (k := .halted) W.1 S D.c_Halted D.f_isinstance (by kernel_rfl) (by kernel_rfl) (by kernel_rfl)) (ga_cons rfl (w_isC (k := .badTree) W.1 S D.c_BadTree D.f_isinstance (by kernel_rfl) (by kernel_rfl) (by kernel_rfl)) (ga_cons rfl (w_isC (k := .badText) W.1 S D.c_BadText D.f_isinstance (by kernel_rfl) (by kernel_rfl) (by kernel_rfl)) (ga_cons rfl (w_isC (k := .badLot) W.1 S D.c_BadLot D.f_isinstance (by kernel_rfl) (by kernel_rfl) (by kernel_rfl)) sa_nil)))))))
    (sb_cons (g_set rfl nd__law_word (by kernel_rfl) rfl (snd_bin (op := .add) (g_var (by kernel_rfl)) (snd_lst (ga_cons rfl (w_isC (k := .badCount) W.1 S D.c_BadCount D.f_isinstance (by kernel_rfl) (by kernel_rfl) (by kernel_rfl)) (ga_cons rfl (w_isC (k := .noLot) W.1 S D.c_NoLot D.f_isinstance (by kernel_rfl) (by kernel_rfl) (by kernel_rfl)) sa_nil)))))
    (sb_cons (g_set rfl nd__law_word (by kernel_rfl) rfl (snd_lst (ga_cons rfl g_str (ga_cons rfl g_str (ga_cons rfl g_str (ga_cons rfl g_str (ga_cons rfl g_str (ga_cons rfl g_str (ga_cons rfl g_str (ga_cons rfl g_str (ga_cons rfl g_str (ga_cons rfl g_str sa_nil))))))))))))
    (sb_cons (ss_ite (sw_or (st_cmp (op := .ne) (by show A.units + 3 + 65 < cLine; omega) rfl (snd_cntT rfl rfl (g_var (by kernel_rfl))) g_int) (sw_or1 (st_not (st_val rfl (w_isV W.1 S D.f_ValueError D.f_isinstance (by kernel_rfl) (by kernel_rfl) (by kernel_rfl)) (fun _ => rfl))))).pt (sb_cons (ss_ret rfl (snd_tup (ga_cons rfl g_str (ga_cons rfl g_non sa_nil))))
    sb_nil) sb_nil)
    (sb_cons (g_set rfl nd__law_word (by kernel_rfl) rfl (g_idx (g_var (by kernel_rfl)) (snd_ixT rfl rfl (g_var (by kernel_rfl))) (fun _ _ => rfl)))
    (sb_cons (ss_ite (st_cmp (op := .eq) (by show A.units + 3 + 65 < cLine; omega) rfl (g_var (by kernel_rfl)) g_str) (sb_cons (ss_ret rfl (snd_tup (ga_cons rfl (g_var (by kernel_rfl)) (ga_cons rfl (snd_tup (ga_cons rfl (w_xf W.1 S (by kernel_rfl) rfl) (ga_cons rfl (w_xf W.1 S (by kernel_rfl) rfl) sa_nil))) sa_nil))))
    sb_nil) sb_nil)
    (sb_cons (ss_ite (st_cmp (op := .eq) (by show A.units + 3 + 65 < cLine; omega) rfl (g_var (by kernel_rfl)) g_str) (sb_cons (ss_ret rfl (snd_tup (ga_cons rfl (g_var (by kernel_rfl)) (ga_cons rfl (w_xf W.1 S (by kernel_rfl) rfl) sa_nil))))
    sb_nil) sb_nil)
    (sb_cons (ss_ite (st_cmp (op := .eq) (by show A.units + 3 + 65 < cLine; omega) rfl (g_var (by kernel_rfl)) g_str) (sb_cons (ss_ret rfl (snd_tup (ga_cons rfl (g_var (by kernel_rfl)) (ga_cons rfl (w_xf W.1 S (by kernel_rfl) rfl) sa_nil))))
    sb_nil) sb_nil)
    (sb_cons (ss_ret rfl (snd_ite rfl rfl (st_cmp (op := .mem) (by show A.units + 3 + 65 < cLine; omega) rfl (g_var (by kernel_rfl)) (snd_slc (g_var (by kernel_rfl)) .none (.some g_int))) (snd_tup (ga_cons rfl (g_var (by kernel_rfl)) (ga_cons rfl (w_xf W.1 S (by kernel_rfl) rfl) sa_nil))) (snd_tup (ga_cons rfl (g_var (by kernel_rfl)) (ga_cons rfl g_non sa_nil)))))
    sb_nil))))))))))
theorem WDof (D : Facts K mg) (P : Program) (w : World) (base : Heap) : WordD P w K mg base (caK K).cls ("_law_word" : Str) ("_law_work" : Str) ("_law_found" : Str) ("e" : Str) ("_law_sorts" : Str) ("_law_names" : Str) ("_law_name" : Str) :=
  ⟨defScope s__law_word, He.fAd K ("_law_word", none), He.ga K "ProbeError", defArgs s__law_word, D.fd__law_word, _, _, _, _, _, _, _, _, _, _, _, _, _, _, _, _, _, _, _, _, _, _, _, D.F__law_word, D.m__law_word, fun _ _ _ _ _ _ _ us hl => match us, hl with | [_], _ => rfl, sc__law_word, D.c_ProbeError, D.W.2, by kernel_rfl, by kernel_rfl, by kernel_rfl, by kernel_rfl, by kernel_rfl, by kernel_rfl, by kernel_rfl, fun cdv A st s H ca M0 c fs ad oe cv d pn hu S => su_word D hu S⟩
def N_is_number : List Str := [("part" : Str), ("low" : Str), ("high" : Str)]
theorem nd_is_number : N_is_number.Nodup := by decide +kernel
theorem sc_is_number : FnScope N_is_number [("part" : Str), ("low" : Str), ("high" : Str)] (defScope s_is_number) := ⟨by kernel_rfl, by kernel_rfl, by kernel_rfl, nd_is_number, by kernel_rfl, by decide +kernel, by decide +kernel⟩
theorem b_is_number (D : Facts K mg) {n : Nat} (A : AllF D P w base n) {cdv : Value} {Ar : Around} {outer : List Env} {s : Shared} {H : Hp} {E : XK} {M0 : Addr → Prop} (hr : Room (3 * n + 2) (Ar.deeper (envOfC ("is_number" : Str) (defScope s_is_number) s.heap.objs.size (He.fAd K (("is_number" : Str), none)) cdv))) :
    SB (cxD P w K mg base N_is_number ("is_number" : Str) (defScope s_is_number) (He.fAd K (("is_number" : Str), none)) cdv Ar outer s H E) (caK K) E M0 (lk Tt n true) (defBody s_is_number) d_is_number.body :=
  have k : Ctx (cxD P w K mg base N_is_number ("is_number" : Str) (defScope s_is_number) (He.fAd K (("is_number" : Str), none)) cdv Ar outer s H E) (WO E) n := ⟨takesD, hr.mono (by omega)⟩
  have WD := WDof D
  (sb_cons (ss_ret rfl (snd_and rfl rfl (g_isI boot_int D.f_isinstance D.f_int (by kernel_rfl) (by kernel_rfl) rfl (g_var (by kernel_rfl))) (snd_and rfl rfl (snd_not rfl (g_isI boot_bool D.f_isinstance D.f_bool (by kernel_rfl) (by kernel_rfl) rfl (g_var (by kernel_rfl)))) (snd_one (g_chain (o := .le) (p := .le) k rfl (g_var (by kernel_rfl)) (g_var (by kernel_rfl)) (g_var (by kernel_rfl)))))))
    sb_nil)
def N_is_lot : List Str := [("part" : Str), ("things" : Str), ("k" : Str), ("one" : Str)]
theorem nd_is_lot : N_is_lot.Nodup := by decide +kernel
theorem sc_is_lot : FnScope N_is_lot [("part" : Str), ("things" : Str)] (defScope s_is_lot) := ⟨by kernel_rfl, by kernel_rfl, by kernel_rfl, nd_is_lot, by kernel_rfl, by decide +kernel, by decide +kernel⟩
theorem b_is_lot (D : Facts K mg) {n : Nat} (A : AllF D P w base n) {cdv : Value} {Ar : Around} {outer : List Env} {s : Shared} {H : Hp} {E : XK} {M0 : Addr → Prop} (hr : Room (3 * n + 2) (Ar.deeper (envOfC ("is_lot" : Str) (defScope s_is_lot) s.heap.objs.size (He.fAd K (("is_lot" : Str), none)) cdv))) :
    SB (cxD P w K mg base N_is_lot ("is_lot" : Str) (defScope s_is_lot) (He.fAd K (("is_lot" : Str), none)) cdv Ar outer s H E) (caK K) E M0 (lk Tt n true) (defBody s_is_lot) d_is_lot.body :=
  have k : Ctx (cxD P w K mg base N_is_lot ("is_lot" : Str) (defScope s_is_lot) (He.fAd K (("is_lot" : Str), none)) cdv Ar outer s H E) (WO E) n := ⟨takesD, hr.mono (by omega)⟩
  have WD := WDof D
  (sb_cons (ss_ite (sw_or (st_not (st_val rfl (g_isI boot_tuple D.f_isinstance D.f_tuple (by kernel_rfl) (by kernel_rfl) rfl (g_var (by kernel_rfl))) (fun _ => rfl))) (sw_or1 (st_not (st_val rfl (g_all rfl D.f_all (by kernel_rfl) rfl (g_comp (own := [(("one" : Str), 3)]) rfl rfl rfl rfl nd_is_lot (by kernel_rfl) (fun _ => rfl) (si_seq (g_var (by kernel_rfl))) (fun _ _ _ _ _ => (gg_var nd_is_lot (by kernel_rfl))) (fun _ _ _ _ _ => sc_nil) (fun _ _ _ _ _ => (g_call (Ctx.blk k) A.is_number D.b_is_number rfl (by kernel_rfl) rfl (ga_cons rfl (g_var (by kernel_rfl)) (ga_cons rfl g_int (ga_cons rfl (snd_bin (op := .sub) (g_var (by kernel_rfl)) g_int) sa_nil))))))) (fun _ => rfl))))).pt (sb_cons (ss_ret rfl g_bl)
    sb_nil) sb_nil)
    (sb_cons (ss_ret rfl (g_all rfl D.f_all (by kernel_rfl) rfl (g_comp (own := [(("k" : Str), 2)]) rfl rfl rfl rfl nd_is_lot (by kernel_rfl) (fun _ => rfl) (g_rng1 D.f_range (by kernel_rfl) rfl (snd_bin (op := .sub) (g_len D.f_len (by kernel_rfl) rfl (g_var (by kernel_rfl))) g_int)) (fun _ _ _ _ _ => (gg_var nd_is_lot (by kernel_rfl))) (fun _ _ _ _ _ => sc_nil) (fun _ _ _ _ _ => (g_cmp (op := .lt) (Ctx.blk k) rfl (g_idx (g_var (by kernel_rfl)) (g_var (by kernel_rfl)) (fun _ _ => rfl)) (g_idx (g_var (by kernel_rfl)) (snd_bin (op := .add) (g_var (by kernel_rfl)) g_int) (fun _ _ => rfl)))))))
    sb_nil))
def N_need_count : List Str := [("number" : Str), ("low" : Str), ("high" : Str)]
theorem nd_need_count : N_need_count.Nodup := by decide +kernel
theorem sc_need_count : FnScope N_need_count [("number" : Str), ("low" : Str), ("high" : Str)] (defScope s_need_count) := ⟨by kernel_rfl, by kernel_rfl, by kernel_rfl, nd_need_count, by kernel_rfl, by decide +kernel, by decide +kernel⟩
theorem b_need_count (D : Facts K mg) {n : Nat} (A : AllF D P w base n) {cdv : Value} {Ar : Around} {outer : List Env} {s : Shared} {H : Hp} {E : XK} {M0 : Addr → Prop} (hr : Room (3 * n + 2) (Ar.deeper (envOfC ("need_count" : Str) (defScope s_need_count) s.heap.objs.size (He.fAd K (("need_count" : Str), none)) cdv))) :
    SB (cxD P w K mg base N_need_count ("need_count" : Str) (defScope s_need_count) (He.fAd K (("need_count" : Str), none)) cdv Ar outer s H E) (caK K) E M0 (lk Tt n true) (defBody s_need_count) d_need_count.body :=
  have k : Ctx (cxD P w K mg base N_need_count ("need_count" : Str) (defScope s_need_count) (He.fAd K (("need_count" : Str), none)) cdv Ar outer s H E) (WO E) n := ⟨takesD, hr.mono (by omega)⟩
  have WD := WDof D
  (sb_cons (ss_ite (st_not (st_val rfl (g_call k A.is_number D.b_is_number rfl (by kernel_rfl) rfl (ga_cons rfl (g_var (by kernel_rfl)) (ga_cons rfl (g_var (by kernel_rfl)) (ga_cons rfl (g_var (by kernel_rfl)) sa_nil)))) (fun _ => rfl))) (sb_cons (g_raise0 k rfl D.x_BadCount rfl (by kernel_rfl) rfl rfl)
    sb_nil) sb_nil)
    sb_nil)
def N_rising : List Str := [("things" : Str), ("many" : Str), ("low" : Str), ("found" : Str), ("thing" : Str), ("rest" : Str)]
theorem nd_rising : N_rising.Nodup := by decide +kernel
theorem sc_rising : FnScope N_rising [("things" : Str), ("many" : Str), ("low" : Str)] (defScope s_rising) := ⟨by kernel_rfl, by kernel_rfl, by kernel_rfl, nd_rising, by kernel_rfl, by decide +kernel, by decide +kernel⟩
theorem b_rising (D : Facts K mg) {n : Nat} (A : AllF D P w base n) {cdv : Value} {Ar : Around} {outer : List Env} {s : Shared} {H : Hp} {E : XK} {M0 : Addr → Prop} (hr : Room (3 * n + 2) (Ar.deeper (envOfC ("rising" : Str) (defScope s_rising) s.heap.objs.size (He.fAd K (("rising" : Str), none)) cdv))) :
    SB (cxD P w K mg base N_rising ("rising" : Str) (defScope s_rising) (He.fAd K (("rising" : Str), none)) cdv Ar outer s H E) (caK K) E M0 (lk Tt n true) (defBody s_rising) d_rising.body :=
  have k : Ctx (cxD P w K mg base N_rising ("rising" : Str) (defScope s_rising) (He.fAd K (("rising" : Str), none)) cdv Ar outer s H E) (WO E) n := ⟨takesD, hr.mono (by omega)⟩
  have WD := WDof D
  (sb_cons (ss_ite (gt_cmp (op := .eq) k rfl (g_var (by kernel_rfl)) g_int) (sb_cons (ss_ret rfl (snd_lst (ga_cons rfl (snd_tup sa_nil) sa_nil)))
    sb_nil) sb_nil)
    (sb_cons (g_setO rfl nd_rising (by kernel_rfl) rfl (snd_lst sa_nil))
    (sb_cons (ss_for rfl passD rfl (g_rng2 D.f_range (by kernel_rfl) rfl rfl (g_var (by kernel_rfl)) (g_var (by kernel_rfl))) (gg_var nd_rising (by kernel_rfl)) (sb_cons (g_ext (by kernel_rfl) rfl rfl (g_comp (own := [(("rest" : Str), 5)]) rfl rfl rfl rfl nd_rising (by kernel_rfl) (fun _ => rfl) (si_seq (g_call k A.rising D.b_rising rfl (by kernel_rfl) rfl (ga_cons rfl (g_var (by kernel_rfl)) (ga_cons rfl (snd_bin (op := .sub) (g_var (by kernel_rfl)) g_int) (ga_cons rfl (snd_bin (op := .add) (g_var (by kernel_rfl)) g_int) sa_nil))))) (fun _ _ _ _ _ => (gg_var nd_rising (by kernel_rfl))) (fun _ _ _ _ _ => sc_nil) (fun _ _ _ _ _ => (snd_bin (op := .add) (snd_tup (ga_cons rfl (g_var (by kernel_rfl)) sa_nil)) (g_var (by kernel_rfl))))))
    sb_nil) (fun _ => rfl))
    (sb_cons (g_retO (by kernel_rfl))
    sb_nil))))
def N_all_lots : List Str := [("things" : Str), ("most" : Str), ("found" : Str), ("many" : Str)]
theorem nd_all_lots : N_all_lots.Nodup := by decide +kernel
theorem sc_all_lots : FnScope N_all_lots [("things" : Str), ("most" : Str)] (defScope s_all_lots) := ⟨by kernel_rfl, by kernel_rfl, by kernel_rfl, nd_all_lots, by kernel_rfl, by decide +kernel, by decide +kernel⟩
theorem b_all_lots (D : Facts K mg) {n : Nat} (A : AllF D P w base n) {cdv : Value} {Ar : Around} {outer : List Env} {s : Shared} {H : Hp} {E : XK} {M0 : Addr → Prop} (hr : Room (3 * n + 2) (Ar.deeper (envOfC ("all_lots" : Str) (defScope s_all_lots) s.heap.objs.size (He.fAd K (("all_lots" : Str), none)) cdv))) :
    SB (cxD P w K mg base N_all_lots ("all_lots" : Str) (defScope s_all_lots) (He.fAd K (("all_lots" : Str), none)) cdv Ar outer s H E) (caK K) E M0 (lk Tt n true) (defBody s_all_lots) d_all_lots.body :=
  have k : Ctx (cxD P w K mg base N_all_lots ("all_lots" : Str) (defScope s_all_lots) (He.fAd K (("all_lots" : Str), none)) cdv Ar outer s H E) (WO E) n := ⟨takesD, hr.mono (by omega)⟩
  have WD := WDof D
  (sb_cons (g_setO rfl nd_all_lots (by kernel_rfl) rfl (snd_lst sa_nil))
    (sb_cons (ss_for rfl passD rfl (g_rng1 D.f_range (by kernel_rfl) rfl (snd_bin (op := .add) (g_min rfl D.f_min (by kernel_rfl) rfl rfl (g_var (by kernel_rfl)) (g_var (by kernel_rfl))) g_int)) (gg_var nd_all_lots (by kernel_rfl)) (sb_cons (g_ext (by kernel_rfl) rfl rfl (g_call k A.rising D.b_rising rfl (by kernel_rfl) rfl (ga_cons rfl (g_var (by kernel_rfl)) (ga_cons rfl (g_var (by kernel_rfl)) (ga_cons rfl g_int sa_nil)))))
    sb_nil) (fun _ => rfl))
    (sb_cons (g_retO (by kernel_rfl))
    sb_nil)))
def N_answer_of : List Str := [("probe" : Str), ("lot" : Str), ("thing" : Str)]
theorem nd_answer_of : N_answer_of.Nodup := by decide +kernel
theorem sc_answer_of : FnScope N_answer_of [("probe" : Str), ("lot" : Str)] (defScope s_answer_of) := ⟨by kernel_rfl, by kernel_rfl, by kernel_rfl, nd_answer_of, by kernel_rfl, by decide +kernel, by decide +kernel⟩
theorem b_answer_of (D : Facts K mg) {n : Nat} (A : AllF D P w base n) {cdv : Value} {Ar : Around} {outer : List Env} {s : Shared} {H : Hp} {E : XK} {M0 : Addr → Prop} (hr : Room (3 * n + 2) (Ar.deeper (envOfC ("answer_of" : Str) (defScope s_answer_of) s.heap.objs.size (He.fAd K (("answer_of" : Str), none)) cdv))) :
    SB (cxD P w K mg base N_answer_of ("answer_of" : Str) (defScope s_answer_of) (He.fAd K (("answer_of" : Str), none)) cdv Ar outer s H E) (caK K) E M0 (lk Tt n true) (defBody s_answer_of) d_answer_of.body :=
  have k : Ctx (cxD P w K mg base N_answer_of ("answer_of" : Str) (defScope s_answer_of) (He.fAd K (("answer_of" : Str), none)) cdv Ar outer s H E) (WO E) n := ⟨takesD, hr.mono (by omega)⟩
  have WD := WDof D
  (sb_cons (ss_ret rfl (g_intOf D.f_int (by kernel_rfl) rfl (g_any rfl D.f_any (by kernel_rfl) rfl (g_comp (own := [(("thing" : Str), 2)]) rfl rfl rfl rfl nd_answer_of (by kernel_rfl) (fun _ => rfl) (si_seq (g_var (by kernel_rfl))) (fun _ _ _ _ _ => (gg_var nd_answer_of (by kernel_rfl))) (fun _ _ _ _ _ => sc_nil) (fun _ _ _ _ _ => (g_cmp (op := .mem) (Ctx.blk k) rfl (g_var (by kernel_rfl)) (g_var (by kernel_rfl))))))))
    sb_nil)
def N_parted : List Str := [("lots" : Str), ("probe" : Str), ("no" : Str), ("lot" : Str)]
theorem nd_parted : N_parted.Nodup := by decide +kernel
theorem sc_parted : FnScope N_parted [("lots" : Str), ("probe" : Str)] (defScope s_parted) := ⟨by kernel_rfl, by kernel_rfl, by kernel_rfl, nd_parted, by kernel_rfl, by decide +kernel, by decide +kernel⟩
theorem b_parted (D : Facts K mg) {n : Nat} (A : AllF D P w base n) {cdv : Value} {Ar : Around} {outer : List Env} {s : Shared} {H : Hp} {E : XK} {M0 : Addr → Prop} (hr : Room (3 * n + 2) (Ar.deeper (envOfC ("parted" : Str) (defScope s_parted) s.heap.objs.size (He.fAd K (("parted" : Str), none)) cdv))) :
    SB (cxD P w K mg base N_parted ("parted" : Str) (defScope s_parted) (He.fAd K (("parted" : Str), none)) cdv Ar outer s H E) (caK K) E M0 (lk Tt n true) (defBody s_parted) d_parted.body :=
  have k : Ctx (cxD P w K mg base N_parted ("parted" : Str) (defScope s_parted) (He.fAd K (("parted" : Str), none)) cdv Ar outer s H E) (WO E) n := ⟨takesD, hr.mono (by omega)⟩
  have WD := WDof D
  (sb_cons (g_set rfl nd_parted (by kernel_rfl) rfl (g_tuple D.f_tuple (by kernel_rfl) rfl (g_comp (own := [(("lot" : Str), 3)]) rfl rfl rfl rfl nd_parted (by kernel_rfl) (fun _ => rfl) (si_seq (g_var (by kernel_rfl))) (fun _ _ _ _ _ => (gg_var nd_parted (by kernel_rfl))) (fun _ _ _ _ _ => (sc_one (gt_cmp (op := .eq) (Ctx.blk k) rfl (g_call (Ctx.blk k) A.answer_of D.b_answer_of rfl (by kernel_rfl) rfl (ga_cons rfl (g_var (by kernel_rfl)) (ga_cons rfl (g_var (by kernel_rfl)) sa_nil))) g_int))) (fun _ _ _ _ _ => (g_var (by kernel_rfl))))))
    (sb_cons (ss_ret rfl (snd_tup (ga_cons rfl (g_var (by kernel_rfl)) (ga_cons rfl (g_tuple D.f_tuple (by kernel_rfl) rfl (g_comp (own := [(("lot" : Str), 3)]) rfl rfl rfl rfl nd_parted (by kernel_rfl) (fun _ => rfl) (si_seq (g_var (by kernel_rfl))) (fun _ _ _ _ _ => (gg_var nd_parted (by kernel_rfl))) (fun _ _ _ _ _ => (sc_one (gt_cmp (op := .eq) (Ctx.blk k) rfl (g_call (Ctx.blk k) A.answer_of D.b_answer_of rfl (by kernel_rfl) rfl (ga_cons rfl (g_var (by kernel_rfl)) (ga_cons rfl (g_var (by kernel_rfl)) sa_nil))) g_int))) (fun _ _ _ _ _ => (g_var (by kernel_rfl))))) sa_nil))))
    sb_nil))
def N_need_tree_counts : List Str := [("things" : Str), ("most" : Str)]
theorem nd_need_tree_counts : N_need_tree_counts.Nodup := by decide +kernel
theorem sc_need_tree_counts : FnScope N_need_tree_counts [("things" : Str), ("most" : Str)] (defScope s_need_tree_counts) := ⟨by kernel_rfl, by kernel_rfl, by kernel_rfl, nd_need_tree_counts, by kernel_rfl, by decide +kernel, by decide +kernel⟩
theorem b_need_tree_counts (D : Facts K mg) {n : Nat} (A : AllF D P w base n) {cdv : Value} {Ar : Around} {outer : List Env} {s : Shared} {H : Hp} {E : XK} {M0 : Addr → Prop} (hr : Room (3 * n + 2) (Ar.deeper (envOfC ("need_tree_counts" : Str) (defScope s_need_tree_counts) s.heap.objs.size (He.fAd K (("need_tree_counts" : Str), none)) cdv))) :
    SB (cxD P w K mg base N_need_tree_counts ("need_tree_counts" : Str) (defScope s_need_tree_counts) (He.fAd K (("need_tree_counts" : Str), none)) cdv Ar outer s H E) (caK K) E M0 (lk Tt n true) (defBody s_need_tree_counts) d_need_tree_counts.body :=
  have k : Ctx (cxD P w K mg base N_need_tree_counts ("need_tree_counts" : Str) (defScope s_need_tree_counts) (He.fAd K (("need_tree_counts" : Str), none)) cdv Ar outer s H E) (WO E) n := ⟨takesD, hr.mono (by omega)⟩
  have WD := WDof D
  (sb_cons (ss_drop (g_call k A.need_count D.b_need_count rfl (by kernel_rfl) rfl (ga_cons rfl (g_var (by kernel_rfl)) (ga_cons rfl g_int (ga_cons rfl (g_gint D.i_MOST_THINGS (by kernel_rfl)) sa_nil)))) rfl)
    (sb_cons (ss_drop (g_call k A.need_count D.b_need_count rfl (by kernel_rfl) rfl (ga_cons rfl (g_var (by kernel_rfl)) (ga_cons rfl g_int (ga_cons rfl (g_gint D.i_MOST_BAD (by kernel_rfl)) sa_nil)))) rfl)
    sb_nil))
def N_walked : List Str := [("things" : Str), ("lots" : Str), ("tree" : Str), ("way" : Str), ("no" : Str), ("yes" : Str)]
theorem nd_walked : N_walked.Nodup := by decide +kernel
theorem sc_walked : FnScope N_walked [("things" : Str), ("lots" : Str), ("tree" : Str), ("way" : Str)] (defScope s_walked) := ⟨by kernel_rfl, by kernel_rfl, by kernel_rfl, nd_walked, by kernel_rfl, by decide +kernel, by decide +kernel⟩
theorem b_walked (D : Facts K mg) {n : Nat} (A : AllF D P w base n) {cdv : Value} {Ar : Around} {outer : List Env} {s : Shared} {H : Hp} {E : XK} {M0 : Addr → Prop} (hr : Room (3 * n + 2) (Ar.deeper (envOfC ("walked" : Str) (defScope s_walked) s.heap.objs.size (He.fAd K (("walked" : Str), none)) cdv))) :
    SB (cxD P w K mg base N_walked ("walked" : Str) (defScope s_walked) (He.fAd K (("walked" : Str), none)) cdv Ar outer s H E) (caK K) E M0 (lk Tt n true) (defBody s_walked) d_walked.body :=
  have k : Ctx (cxD P w K mg base N_walked ("walked" : Str) (defScope s_walked) (He.fAd K (("walked" : Str), none)) cdv Ar outer s H E) (WO E) n := ⟨takesD, hr.mono (by omega)⟩
  have WD := WDof D
  (sb_cons (ss_ite (sw_or (st_not (st_val rfl (g_isI boot_tuple D.f_isinstance D.f_tuple (by kernel_rfl) (by kernel_rfl) rfl (g_var (by kernel_rfl))) (fun _ => rfl))) (sw_or (gt_cmp (op := .eq) k rfl (g_var (by kernel_rfl)) (snd_tup sa_nil)) (sw_or1 (st_not (st_val rfl (g_isI boot_str D.f_isinstance D.f_str (by kernel_rfl) (by kernel_rfl) rfl (g_idx (g_var (by kernel_rfl)) g_int (fun _ _ => rfl))) (fun _ => rfl)))))).pt (sb_cons (g_raise1 k hr rfl D.x_BadTree rfl (by kernel_rfl) rfl rfl rfl (g_var (by kernel_rfl)))
    sb_nil) sb_nil)
    (sb_cons (ss_ite (gt_cmp (op := .eq) k rfl (g_idx (g_var (by kernel_rfl)) g_int (fun _ _ => rfl)) g_str) (sb_cons (ss_ite (sw_or (gt_cmp (op := .ne) k rfl (g_len D.f_len (by kernel_rfl) rfl (g_var (by kernel_rfl))) g_int) (sw_or1 (gt_cmp (op := .ne) k rfl (g_var (by kernel_rfl)) (snd_tup (ga_cons rfl (g_idx (g_var (by kernel_rfl)) g_int (fun _ _ => rfl)) sa_nil))))).pt (sb_cons (g_raise1 k hr rfl D.x_BadTree rfl (by kernel_rfl) rfl rfl rfl (g_var (by kernel_rfl)))
    sb_nil) sb_nil)
    (sb_cons (ss_ret rfl (snd_lst (ga_cons rfl (snd_tup (ga_cons rfl (g_idx (g_var (by kernel_rfl)) g_int (fun _ _ => rfl)) (ga_cons rfl (g_len D.f_len (by kernel_rfl) rfl (g_var (by kernel_rfl))) sa_nil))) sa_nil)))
    sb_nil)) sb_nil)
    (sb_cons (ss_ite (sw_or (gt_cmp (op := .ne) k rfl (g_idx (g_var (by kernel_rfl)) g_int (fun _ _ => rfl)) g_str) (sw_or (gt_cmp (op := .ne) k rfl (g_len D.f_len (by kernel_rfl) rfl (g_var (by kernel_rfl))) g_int) (sw_or1 (st_not (st_val rfl (g_call k A.is_lot D.b_is_lot rfl (by kernel_rfl) rfl (ga_cons rfl (g_idx (g_var (by kernel_rfl)) g_int (fun _ _ => rfl)) (ga_cons rfl (g_var (by kernel_rfl)) sa_nil))) (fun _ => rfl)))))).pt (sb_cons (g_raise1 k hr rfl D.x_BadTree rfl (by kernel_rfl) rfl rfl rfl (g_var (by kernel_rfl)))
    sb_nil) sb_nil)
    (sb_cons (g_unp rfl rfl (by kernel_rfl) rfl (g_call k A.parted D.b_parted rfl (by kernel_rfl) rfl (ga_cons rfl (g_var (by kernel_rfl)) (ga_cons rfl (g_idx (g_var (by kernel_rfl)) g_int (fun _ _ => rfl)) sa_nil))) (sg_tup rfl (sgs_cons (gg_var nd_walked (by kernel_rfl)) (sgs_cons (gg_var nd_walked (by kernel_rfl)) sgs_nil rfl) rfl) rfl rfl))
    (sb_cons (ss_ite (sw_or (gt_cmp (op := .eq) k rfl (g_var (by kernel_rfl)) (snd_tup sa_nil)) (sw_or1 (gt_cmp (op := .eq) k rfl (g_var (by kernel_rfl)) (snd_tup sa_nil)))).pt (sb_cons (g_raise1 k hr rfl D.x_BadTree rfl (by kernel_rfl) rfl rfl rfl (g_var (by kernel_rfl)))
    sb_nil) sb_nil)
    (sb_cons (ss_ret rfl (snd_bin (op := .add) (g_call k A.walked D.b_walked rfl (by kernel_rfl) rfl (ga_cons rfl (g_var (by kernel_rfl)) (ga_cons rfl (g_var (by kernel_rfl)) (ga_cons rfl (g_idx (g_var (by kernel_rfl)) g_int (fun _ _ => rfl)) (ga_cons rfl (snd_bin (op := .add) (g_var (by kernel_rfl)) (snd_tup (ga_cons rfl g_int sa_nil))) sa_nil))))) (g_call k A.walked D.b_walked rfl (by kernel_rfl) rfl (ga_cons rfl (g_var (by kernel_rfl)) (ga_cons rfl (g_var (by kernel_rfl)) (ga_cons rfl (g_idx (g_var (by kernel_rfl)) g_int (fun _ _ => rfl)) (ga_cons rfl (snd_bin (op := .add) (g_var (by kernel_rfl)) (snd_tup (ga_cons rfl g_int sa_nil))) sa_nil)))))))
    sb_nil))))))
def N_read_tree : List Str := [("things" : Str), ("most" : Str), ("tree" : Str), ("found" : Str)]
theorem nd_read_tree : N_read_tree.Nodup := by decide +kernel
theorem sc_read_tree : FnScope N_read_tree [("things" : Str), ("most" : Str), ("tree" : Str)] (defScope s_read_tree) := ⟨by kernel_rfl, by kernel_rfl, by kernel_rfl, nd_read_tree, by kernel_rfl, by decide +kernel, by decide +kernel⟩
theorem b_read_tree (D : Facts K mg) {n : Nat} (A : AllF D P w base n) (TB_read_tree : LamX.TabB base mg (He.cT K (("read_tree" : Str), none)).1 (He.cT K (("read_tree" : Str), none)).2) {cdv : Value} {Ar : Around} {outer : List Env} {s : Shared} {H : Hp} {E : XK} {M0 : Addr → Prop} (hcode : cdv = .ref (He.cT K (("read_tree" : Str), none)).1) (hr : Room (3 * n + 2) (Ar.deeper (envOfC ("read_tree" : Str) (defScope s_read_tree) s.heap.objs.size (He.fAd K (("read_tree" : Str), none)) cdv))) :
    SB (cxD P w K mg base N_read_tree ("read_tree" : Str) (defScope s_read_tree) (He.fAd K (("read_tree" : Str), none)) cdv Ar outer s H E) (caK K) E M0 (lk Tt n true) (defBody s_read_tree) d_read_tree.body :=
  have k : Ctx (cxD P w K mg base N_read_tree ("read_tree" : Str) (defScope s_read_tree) (He.fAd K (("read_tree" : Str), none)) cdv Ar outer s H E) (WO E) n := ⟨takesD, hr.mono (by omega)⟩
  have WD := WDof D
  (sb_cons (ss_drop (g_call k A.need_tree_counts D.b_need_tree_counts rfl (by kernel_rfl) rfl (ga_cons rfl (g_var (by kernel_rfl)) (ga_cons rfl (g_var (by kernel_rfl)) sa_nil))) rfl)
    (sb_cons (g_set rfl nd_read_tree (by kernel_rfl) rfl (g_call k A.walked D.b_walked rfl (by kernel_rfl) rfl (ga_cons rfl (g_var (by kernel_rfl)) (ga_cons rfl (g_tuple D.f_tuple (by kernel_rfl) rfl (g_call k A.all_lots D.b_all_lots rfl (by kernel_rfl) rfl (ga_cons rfl (g_var (by kernel_rfl)) (ga_cons rfl (g_var (by kernel_rfl)) sa_nil)))) (ga_cons rfl (g_var (by kernel_rfl)) (ga_cons rfl (snd_tup sa_nil) sa_nil))))))
    (sb_cons (ss_ret rfl (g_sortF k D.f_sorted D.f_len (by kernel_rfl) rfl TB_read_tree hcode (tm_read_tree (K := K)) (th_read_tree D.nq) rfl (by kernel_rfl) (fun _ _ _ _ _ _ => rfl) (g_var (by kernel_rfl))))
    sb_nil)))
def N__law_row : List Str := [("_law_script" : Str), ("_law_mixed" : Str), ("_law_cell" : Str)]
theorem nd__law_row : N__law_row.Nodup := by decide +kernel
theorem sc__law_row : FnScope N__law_row [("_law_script" : Str)] (defScope s__law_row) := ⟨by kernel_rfl, by kernel_rfl, by kernel_rfl, nd__law_row, by kernel_rfl, by decide +kernel, by decide +kernel⟩
theorem b__law_row (D : Facts K mg) {n : Nat} (A : AllF D P w base n) {cdv : Value} {Ar : Around} {outer : List Env} {s : Shared} {H : Hp} {E : XK} {M0 : Addr → Prop} (hr : Room (3 * n + 2) (Ar.deeper (envOfC ("_law_row" : Str) (defScope s__law_row) s.heap.objs.size (He.fAd K (("_law_row" : Str), none)) cdv))) :
    SB (cxD P w K mg base N__law_row ("_law_row" : Str) (defScope s__law_row) (He.fAd K (("_law_row" : Str), none)) cdv Ar outer s H E) (caK K) E M0 (lk Tt n false) (defBody s__law_row) d__law_row.body :=
  have k : Ctx (cxD P w K mg base N__law_row ("_law_row" : Str) (defScope s__law_row) (He.fAd K (("_law_row" : Str), none)) cdv Ar outer s H E) (WO E) n := ⟨takesD, hr.mono (by omega)⟩
  have WD := WDof D
  (sb_cons (g_set rfl nd__law_row (by kernel_rfl) rfl g_int)
    (sb_cons (ss_for rfl passD rfl (si_seq (g_var (by kernel_rfl))) (gg_var nd__law_row (by kernel_rfl)) (sb_cons (g_set rfl nd__law_row (by kernel_rfl) rfl (snd_bin (op := .mod) (snd_bin (op := .add) (snd_bin (op := .add) (snd_bin (op := .mul) (g_var (by kernel_rfl)) g_int) (g_var (by kernel_rfl))) g_int) g_int))
    sb_nil) (fun _ => rfl))
    (sb_cons (ss_retL (ga_cons rfl (g_var (by kernel_rfl)) (ga_cons rfl g_int (ga_cons rfl g_int (ga_cons rfl (g_var (by kernel_rfl)) sa_nil)))))
    sb_nil)))
def N__law_taken : List Str := [("_law_row_here" : Str), ("_law_many" : Str), ("_law_found" : Str), ("_law_cell" : Str)]
theorem nd__law_taken : N__law_taken.Nodup := by decide +kernel
theorem sc__law_taken : FnScope N__law_taken [("_law_row_here" : Str), ("_law_many" : Str)] (defScope s__law_taken) := ⟨by kernel_rfl, by kernel_rfl, by kernel_rfl, nd__law_taken, by kernel_rfl, by decide +kernel, by decide +kernel⟩
theorem b__law_taken (D : Facts K mg) {n : Nat} (A : AllF D P w base n) {cdv : Value} {Ar : Around} {outer : List Env} {s : Shared} {H : Hp} {E : XK} {M0 : Addr → Prop} (hr : Room (3 * n + 2) (Ar.deeper (envOfC ("_law_taken" : Str) (defScope s__law_taken) s.heap.objs.size (He.fAd K (("_law_taken" : Str), none)) cdv))) :
    SB (cxD P w K mg base N__law_taken ("_law_taken" : Str) (defScope s__law_taken) (He.fAd K (("_law_taken" : Str), none)) cdv Ar outer s H E) (caK K) E M0 (lk Tt n false) (defBody s__law_taken) d__law_taken.body :=
  have k : Ctx (cxD P w K mg base N__law_taken ("_law_taken" : Str) (defScope s__law_taken) (He.fAd K (("_law_taken" : Str), none)) cdv Ar outer s H E) (WO E) n := ⟨takesD, hr.mono (by omega)⟩
  have WD := WDof D
  (sb_cons (ss_ite (gt_cmp (op := .gt) k rfl (g_idx (g_var (by kernel_rfl)) g_int (fun _ _ => rfl)) g_int) (sb_cons (g_set rfl nd__law_taken (by kernel_rfl) rfl (snd_bin (op := .mod) (g_idx (g_var (by kernel_rfl)) g_int (fun _ _ => rfl)) (g_var (by kernel_rfl))))
    (sb_cons (g_setI rfl rfl rfl rfl rfl rfl (fun _ => rfl) (snd_bin (op := .fdiv) (g_idx (g_var (by kernel_rfl)) g_int (fun _ _ => rfl)) (g_var (by kernel_rfl))) (g_var (by kernel_rfl)) g_int)
    (sb_cons (ss_ret rfl (g_var (by kernel_rfl)))
    sb_nil))) sb_nil)
    (sb_cons (ss_ite (gt_cmp (op := .lt) k rfl (g_idx (g_var (by kernel_rfl)) g_int (fun _ _ => rfl)) (g_len D.f_len (by kernel_rfl) rfl (g_idx (g_var (by kernel_rfl)) g_int (fun _ _ => rfl)))) (sb_cons (g_set rfl nd__law_taken (by kernel_rfl) rfl (g_idx (g_idx (g_var (by kernel_rfl)) g_int (fun _ _ => rfl)) (g_idx (g_var (by kernel_rfl)) g_int (fun _ _ => rfl)) (fun _ _ => rfl)))
    (sb_cons (g_setI rfl rfl rfl rfl rfl rfl (fun _ => rfl) (snd_bin (op := .add) (g_idx (g_var (by kernel_rfl)) g_int (fun _ _ => rfl)) g_int) (g_var (by kernel_rfl)) g_int)
    (sb_cons (ss_ite (gt_cmp (op := .ge) k rfl (g_var (by kernel_rfl)) (snd_bin (op := .pow) g_int g_int)) (sb_cons (g_setI rfl rfl rfl rfl rfl rfl (fun _ => rfl) (snd_bin (op := .fdiv) (g_var (by kernel_rfl)) (g_var (by kernel_rfl))) (g_var (by kernel_rfl)) g_int)
    sb_nil) sb_nil)
    (sb_cons (ss_ret rfl (snd_bin (op := .mod) (g_var (by kernel_rfl)) (g_var (by kernel_rfl))))
    sb_nil)))) sb_nil)
    (sb_cons (g_setI rfl rfl rfl rfl rfl rfl (fun _ => rfl) (snd_bin (op := .mod) (snd_bin (op := .add) (snd_bin (op := .mul) (g_idx (g_var (by kernel_rfl)) g_int (fun _ _ => rfl)) g_int) g_int) g_int) (g_var (by kernel_rfl)) g_int)
    (sb_cons (ss_ret rfl (snd_bin (op := .mod) (snd_bin (op := .fdiv) (g_idx (g_var (by kernel_rfl)) g_int (fun _ _ => rfl)) g_int) (g_var (by kernel_rfl))))
    sb_nil))))
def N__law_lots : List Str := [("_law_things" : Str), ("_law_most" : Str), ("_law_found" : Str), ("_law_thing" : Str), ("_law_lot_here" : Str)]
theorem nd__law_lots : N__law_lots.Nodup := by decide +kernel
theorem sc__law_lots : FnScope N__law_lots [("_law_things" : Str), ("_law_most" : Str)] (defScope s__law_lots) := ⟨by kernel_rfl, by kernel_rfl, by kernel_rfl, nd__law_lots, by kernel_rfl, by decide +kernel, by decide +kernel⟩
theorem b__law_lots (D : Facts K mg) {n : Nat} (A : AllF D P w base n) (TB__law_lots : LamX.TabB base mg (He.cT K (("_law_lots" : Str), none)).1 (He.cT K (("_law_lots" : Str), none)).2) {cdv : Value} {Ar : Around} {outer : List Env} {s : Shared} {H : Hp} {E : XK} {M0 : Addr → Prop} (hcode : cdv = .ref (He.cT K (("_law_lots" : Str), none)).1) (hr : Room (3 * n + 2) (Ar.deeper (envOfC ("_law_lots" : Str) (defScope s__law_lots) s.heap.objs.size (He.fAd K (("_law_lots" : Str), none)) cdv))) :
    SB (cxD P w K mg base N__law_lots ("_law_lots" : Str) (defScope s__law_lots) (He.fAd K (("_law_lots" : Str), none)) cdv Ar outer s H E) (caK K) E M0 (lk Tt n true) (defBody s__law_lots) d__law_lots.body :=
  have k : Ctx (cxD P w K mg base N__law_lots ("_law_lots" : Str) (defScope s__law_lots) (He.fAd K (("_law_lots" : Str), none)) cdv Ar outer s H E) (WO E) n := ⟨takesD, hr.mono (by omega)⟩
  have WD := WDof D
  (sb_cons (g_set rfl nd__law_lots (by kernel_rfl) rfl (snd_lst (ga_cons rfl (snd_tup sa_nil) sa_nil)))
    (sb_cons (ss_for rfl passD rfl (g_rng1 D.f_range (by kernel_rfl) rfl (g_var (by kernel_rfl))) (gg_var nd__law_lots (by kernel_rfl)) (sb_cons (g_set rfl nd__law_lots (by kernel_rfl) rfl (snd_bin (op := .add) (g_var (by kernel_rfl)) (g_comp (own := [(("_law_lot_here" : Str), 4)]) rfl rfl rfl rfl nd__law_lots (by kernel_rfl) (fun _ => rfl) (si_seq (g_var (by kernel_rfl))) (fun _ _ _ _ _ => (gg_var nd__law_lots (by kernel_rfl))) (fun _ _ _ _ _ => (sc_one (gt_cmp (op := .lt) (Ctx.blk k) rfl (g_len D.f_len (by kernel_rfl) rfl (g_var (by kernel_rfl))) (g_var (by kernel_rfl))))) (fun _ _ _ _ _ => (snd_bin (op := .add) (g_var (by kernel_rfl)) (snd_tup (ga_cons rfl (g_var (by kernel_rfl)) sa_nil)))))))
    sb_nil) (fun _ => rfl))
    (sb_cons (ss_ret rfl (g_sortS k D.f_sorted D.f_len (by kernel_rfl) rfl TB__law_lots hcode (tm__law_lots (K := K)) (th__law_lots D.nq) rfl (by kernel_rfl) (fun _ _ _ _ _ _ => rfl) (g_var (by kernel_rfl))))
    sb_nil)))
def N__law_lot : List Str := [("_law_row_here" : Str), ("_law_things" : Str), ("_law_thing" : Str)]
theorem nd__law_lot : N__law_lot.Nodup := by decide +kernel
theorem sc__law_lot : FnScope N__law_lot [("_law_row_here" : Str), ("_law_things" : Str)] (defScope s__law_lot) := ⟨by kernel_rfl, by kernel_rfl, by kernel_rfl, nd__law_lot, by kernel_rfl, by decide +kernel, by decide +kernel⟩
theorem b__law_lot (D : Facts K mg) {n : Nat} (A : AllF D P w base n) {cdv : Value} {Ar : Around} {outer : List Env} {s : Shared} {H : Hp} {E : XK} {M0 : Addr → Prop} (hr : Room (3 * n + 2) (Ar.deeper (envOfC ("_law_lot" : Str) (defScope s__law_lot) s.heap.objs.size (He.fAd K (("_law_lot" : Str), none)) cdv))) :
    SB (cxD P w K mg base N__law_lot ("_law_lot" : Str) (defScope s__law_lot) (He.fAd K (("_law_lot" : Str), none)) cdv Ar outer s H E) (caK K) E M0 (lk Tt n false) (defBody s__law_lot) d__law_lot.body :=
  have k : Ctx (cxD P w K mg base N__law_lot ("_law_lot" : Str) (defScope s__law_lot) (He.fAd K (("_law_lot" : Str), none)) cdv Ar outer s H E) (WO E) n := ⟨takesD, hr.mono (by omega)⟩
  have WD := WDof D
  (sb_cons (ss_ret rfl (g_tuple D.f_tuple (by kernel_rfl) rfl (g_comp (own := [(("_law_thing" : Str), 2)]) rfl rfl rfl rfl nd__law_lot (by kernel_rfl) (fun _ => rfl) (g_rng1 D.f_range (by kernel_rfl) rfl (g_var (by kernel_rfl))) (fun _ _ _ _ _ => (gg_var nd__law_lot (by kernel_rfl))) (fun _ _ _ _ _ => (sc_one (gt_cmp (op := .lt) (Ctx.blk k) rfl (g_call (Ctx.blk k) A._law_taken D.b__law_taken rfl (by kernel_rfl) rfl (ga_cons rfl (g_var (by kernel_rfl)) (ga_cons rfl g_int sa_nil))) g_int))) (fun _ _ _ _ _ => (g_var (by kernel_rfl))))))
    sb_nil)
def N__law_drawn : List Str := [("_law_row_here" : Str), ("_law_things" : Str), ("_law_lots_here" : Str), ("_law_way" : Str), ("_law_some" : Str), ("_law_probe" : Str), ("_law_hit" : Str), ("_law_rest" : Str), ("_law_no" : Str), ("_law_yes" : Str), ("_law_lot_here" : Str), ("_law_thing" : Str)]
theorem nd__law_drawn : N__law_drawn.Nodup := by decide +kernel
theorem sc__law_drawn : FnScope N__law_drawn [("_law_row_here" : Str), ("_law_things" : Str), ("_law_lots_here" : Str), ("_law_way" : Str)] (defScope s__law_drawn) := ⟨by kernel_rfl, by kernel_rfl, by kernel_rfl, nd__law_drawn, by kernel_rfl, by decide +kernel, by decide +kernel⟩
theorem b__law_drawn (D : Facts K mg) {n : Nat} (A : AllF D P w base n) {cdv : Value} {Ar : Around} {outer : List Env} {s : Shared} {H : Hp} {E : XK} {M0 : Addr → Prop} (hr : Room (3 * n + 2) (Ar.deeper (envOfC ("_law_drawn" : Str) (defScope s__law_drawn) s.heap.objs.size (He.fAd K (("_law_drawn" : Str), none)) cdv))) :
    SB (cxD P w K mg base N__law_drawn ("_law_drawn" : Str) (defScope s__law_drawn) (He.fAd K (("_law_drawn" : Str), none)) cdv Ar outer s H E) (caK K) E M0 (lk Tt n false) (defBody s__law_drawn) d__law_drawn.body :=
  have k : Ctx (cxD P w K mg base N__law_drawn ("_law_drawn" : Str) (defScope s__law_drawn) (He.fAd K (("_law_drawn" : Str), none)) cdv Ar outer s H E) (WO E) n := ⟨takesD, hr.mono (by omega)⟩
  have WD := WDof D
  (sb_cons (ss_ite (gt_cmp (op := .eq) k rfl (g_len D.f_len (by kernel_rfl) rfl (g_var (by kernel_rfl))) g_int) (sb_cons (ss_ret rfl (snd_tup (ga_cons rfl (snd_tup (ga_cons rfl g_str (ga_cons rfl (g_idx (g_var (by kernel_rfl)) g_int (fun _ _ => rfl)) sa_nil))) (ga_cons rfl (snd_lst (ga_cons rfl (snd_tup (ga_cons rfl (g_idx (g_var (by kernel_rfl)) g_int (fun _ _ => rfl)) (ga_cons rfl (g_len D.f_len (by kernel_rfl) rfl (g_var (by kernel_rfl))) sa_nil))) sa_nil)) sa_nil))))
    sb_nil) sb_nil)
    (sb_cons (g_set rfl nd__law_drawn (by kernel_rfl) rfl (snd_lst sa_nil))
    (sb_cons (ss_for rfl passD rfl (si_seq (snd_bin (op := .add) (g_comp (own := [(("_law_thing" : Str), 11)]) rfl rfl rfl rfl nd__law_drawn (by kernel_rfl) (fun _ => rfl) (g_rng1 D.f_range (by kernel_rfl) rfl (g_var (by kernel_rfl))) (fun _ _ _ _ _ => (gg_var nd__law_drawn (by kernel_rfl))) (fun _ _ _ _ _ => sc_nil) (fun _ _ _ _ _ => (snd_tup (ga_cons rfl (g_var (by kernel_rfl)) sa_nil)))) (snd_lst (ga_cons rfl (g_call k A._law_lot D.b__law_lot rfl (by kernel_rfl) rfl (ga_cons rfl (g_var (by kernel_rfl)) (ga_cons rfl (g_var (by kernel_rfl)) sa_nil))) (ga_cons rfl (g_call k A._law_lot D.b__law_lot rfl (by kernel_rfl) rfl (ga_cons rfl (g_var (by kernel_rfl)) (ga_cons rfl (g_var (by kernel_rfl)) sa_nil))) sa_nil))))) (gg_var nd__law_drawn (by kernel_rfl)) (sb_cons (g_set rfl nd__law_drawn (by kernel_rfl) (by kernel_rfl) (g_comp (own := [(("_law_lot_here" : Str), 10)]) rfl rfl rfl rfl nd__law_drawn (by kernel_rfl) (fun _ => rfl) (si_seq (g_var (by kernel_rfl))) (fun _ _ _ _ _ => (gg_var nd__law_drawn (by kernel_rfl))) (fun _ _ _ _ _ => (sc_one (gt_cmp (op := .ne) (Ctx.blk k) rfl (g_comp (own := [(("_law_thing" : Str), 11)]) rfl rfl rfl rfl nd__law_drawn (by kernel_rfl) (fun _ => rfl) (si_seq (g_var (by kernel_rfl))) (fun _ _ _ _ _ => (gg_var nd__law_drawn (by kernel_rfl))) (fun _ _ _ _ _ => (sc_one (gt_cmp (op := .mem) (Ctx.blk (Ctx.blk k)) rfl (g_var (by kernel_rfl)) (g_var (by kernel_rfl))))) (fun _ _ _ _ _ => (g_var (by kernel_rfl)))) (snd_lst sa_nil)))) (fun _ _ _ _ _ => (g_var (by kernel_rfl)))))
    (sb_cons (g_set rfl nd__law_drawn (by kernel_rfl) rfl (snd_bin (op := .add) (g_var (by kernel_rfl)) (snd_bin (op := .mul) (snd_lst (ga_cons rfl (snd_tup (ga_cons rfl (g_var (by kernel_rfl)) (ga_cons rfl (g_var (by kernel_rfl)) sa_nil))) sa_nil)) (g_intOf D.f_int (by kernel_rfl) rfl (g_chain (o := .lt) (p := .lt) k rfl g_int (g_len D.f_len (by kernel_rfl) rfl (g_var (by kernel_rfl))) (g_len D.f_len (by kernel_rfl) rfl (g_var (by kernel_rfl))))))))
    sb_nil)) (fun _ => rfl))
    (sb_cons (g_unp rfl rfl (by kernel_rfl) rfl (g_idx (g_var (by kernel_rfl)) (g_call k A._law_taken D.b__law_taken rfl (by kernel_rfl) rfl (ga_cons rfl (g_var (by kernel_rfl)) (ga_cons rfl (g_len D.f_len (by kernel_rfl) rfl (g_var (by kernel_rfl))) sa_nil))) (fun _ _ => rfl)) (sg_tup rfl (sgs_cons (gg_var nd__law_drawn (by kernel_rfl)) (sgs_cons (gg_var nd__law_drawn (by kernel_rfl)) sgs_nil rfl) rfl) rfl rfl))
    (sb_cons (g_setC (by kernel_rfl) (by kernel_rfl) (own := [(("_law_lot_here" : Str), 10)]) rfl rfl rfl rfl nd__law_drawn (by kernel_rfl) (fun _ => rfl) (si_seq (g_var (by kernel_rfl))) (fun _ _ _ _ _ => (gg_var nd__law_drawn (by kernel_rfl))) (fun _ _ _ _ _ => (sc_one (gt_cmp (op := .nmem) (Ctx.blk k) rfl (g_var (by kernel_rfl)) (g_var (by kernel_rfl))))) (fun _ _ _ _ _ => (g_var (by kernel_rfl))))
    (sb_cons (g_par2 rfl rfl rfl nd__law_drawn (by kernel_rfl) (by kernel_rfl) (by decide) (by kernel_rfl) rfl rfl rfl (g_call k A._law_drawn D.b__law_drawn rfl (by kernel_rfl) rfl (ga_cons rfl (g_var (by kernel_rfl)) (ga_cons rfl (g_var (by kernel_rfl)) (ga_cons rfl (g_var (by kernel_rfl)) (ga_cons rfl (snd_bin (op := .add) (g_var (by kernel_rfl)) (snd_tup (ga_cons rfl g_int sa_nil))) sa_nil))))) (g_call k A._law_drawn D.b__law_drawn rfl (by kernel_rfl) rfl (ga_cons rfl (g_var (by kernel_rfl)) (ga_cons rfl (g_var (by kernel_rfl)) (ga_cons rfl (g_var (by kernel_rfl)) (ga_cons rfl (snd_bin (op := .add) (g_var (by kernel_rfl)) (snd_tup (ga_cons rfl g_int sa_nil))) sa_nil))))))
    (sb_cons (ss_ret rfl (snd_tup (ga_cons rfl (snd_tup (ga_cons rfl g_str (ga_cons rfl (g_var (by kernel_rfl)) (ga_cons rfl (g_idx (g_var (by kernel_rfl)) g_int (fun _ _ => rfl)) (ga_cons rfl (g_idx (g_var (by kernel_rfl)) g_int (fun _ _ => rfl)) sa_nil))))) (ga_cons rfl (snd_bin (op := .add) (g_idx (g_var (by kernel_rfl)) g_int (fun _ _ => rfl)) (g_idx (g_var (by kernel_rfl)) g_int (fun _ _ => rfl))) sa_nil))))
    sb_nil)))))))
def N__law_alike : List Str := [("_law_found" : Str), ("_law_due" : Str), ("_law_same_kind" : Str), ("_law_k" : Str)]
theorem nd__law_alike : N__law_alike.Nodup := by decide +kernel
theorem sc__law_alike : FnScope N__law_alike [("_law_found" : Str), ("_law_due" : Str)] (defScope s__law_alike) := ⟨by kernel_rfl, by kernel_rfl, by kernel_rfl, nd__law_alike, by kernel_rfl, by decide +kernel, by decide +kernel⟩
theorem b__law_alike (D : Facts K mg) {n : Nat} (A : AllF D P w base n) {cdv : Value} {Ar : Around} {outer : List Env} {s : Shared} {H : Hp} {E : XK} {M0 : Addr → Prop} (hr : Room (3 * n + 2) (Ar.deeper (envOfC ("_law_alike" : Str) (defScope s__law_alike) s.heap.objs.size (He.fAd K (("_law_alike" : Str), none)) cdv))) :
    SB (cxD P w K mg base N__law_alike ("_law_alike" : Str) (defScope s__law_alike) (He.fAd K (("_law_alike" : Str), none)) cdv Ar outer s H E) (caK K) E M0 (lk Tt n true) (defBody s__law_alike) d__law_alike.body :=
  have k : Ctx (cxD P w K mg base N__law_alike ("_law_alike" : Str) (defScope s__law_alike) (He.fAd K (("_law_alike" : Str), none)) cdv Ar outer s H E) (WO E) n := ⟨takesD, hr.mono (by omega)⟩
  have WD := WDof D
  (sb_cons (ss_ite (st_val rfl (g_is2 boot_tuple boot_list D.f_isinstance D.f_tuple D.f_list (by kernel_rfl) (by kernel_rfl) (by kernel_rfl) rfl (g_var (by kernel_rfl))) (fun _ => rfl)) (sb_cons (ss_ite (sw_or (gt_cmp (op := .ne) k rfl (g_isI boot_tuple D.f_isinstance D.f_tuple (by kernel_rfl) (by kernel_rfl) rfl (g_var (by kernel_rfl))) (g_isI boot_tuple D.f_isinstance D.f_tuple (by kernel_rfl) (by kernel_rfl) rfl (g_var (by kernel_rfl)))) (sw_or1 (st_not (st_val rfl (g_is2 boot_tuple boot_list D.f_isinstance D.f_tuple D.f_list (by kernel_rfl) (by kernel_rfl) (by kernel_rfl) rfl (g_var (by kernel_rfl))) (fun _ => rfl))))).pt (sb_cons (ss_ret rfl g_bl)
    sb_nil) sb_nil)
    (sb_cons (ss_ite (gt_cmp (op := .ne) k rfl (g_len D.f_len (by kernel_rfl) rfl (g_var (by kernel_rfl))) (g_len D.f_len (by kernel_rfl) rfl (g_var (by kernel_rfl)))) (sb_cons (ss_ret rfl g_bl)
    sb_nil) sb_nil)
    (sb_cons (ss_ret rfl (g_cmp (op := .eq) k rfl (g_comp (own := [(("_law_k" : Str), 3)]) rfl rfl rfl rfl nd__law_alike (by kernel_rfl) (fun _ => rfl) (g_rng1 D.f_range (by kernel_rfl) rfl (g_len D.f_len (by kernel_rfl) rfl (g_var (by kernel_rfl)))) (fun _ _ _ _ _ => (gg_var nd__law_alike (by kernel_rfl))) (fun _ _ _ _ _ => (sc_one (st_not (st_val rfl (g_call (Ctx.blk k) A._law_alike D.b__law_alike rfl (by kernel_rfl) rfl (ga_cons rfl (g_idx (g_var (by kernel_rfl)) (g_var (by kernel_rfl)) (fun _ _ => rfl)) (ga_cons rfl (g_idx (g_var (by kernel_rfl)) (g_var (by kernel_rfl)) (fun _ _ => rfl)) sa_nil))) (fun _ => rfl))))) (fun _ _ _ _ _ => (g_var (by kernel_rfl)))) (snd_lst sa_nil)))
    sb_nil))) sb_nil)
    (sb_cons (ss_ite (sw_or (st_isN (g_var (by kernel_rfl))) (sw_or1 (st_isN (g_var (by kernel_rfl))))).pt (sb_cons (ss_ret rfl (snd_and rfl rfl (snd_isN (g_var (by kernel_rfl))) (snd_one (snd_isN (g_var (by kernel_rfl))))))
    sb_nil) sb_nil)
    (sb_cons (g_set rfl nd__law_alike (by kernel_rfl) rfl (g_cmp (op := .eq) k rfl (g_isI boot_str D.f_isinstance D.f_str (by kernel_rfl) (by kernel_rfl) rfl (g_var (by kernel_rfl))) (g_isI boot_str D.f_isinstance D.f_str (by kernel_rfl) (by kernel_rfl) rfl (g_var (by kernel_rfl)))))
    (sb_cons (ss_ret rfl (snd_and rfl rfl (g_var (by kernel_rfl)) (snd_and rfl rfl (g_cmp (op := .eq) k rfl (g_isI boot_bool D.f_isinstance D.f_bool (by kernel_rfl) (by kernel_rfl) rfl (g_var (by kernel_rfl))) (g_isI boot_bool D.f_isinstance D.f_bool (by kernel_rfl) (by kernel_rfl) rfl (g_var (by kernel_rfl)))) (snd_one (g_cmp (op := .eq) k rfl (g_var (by kernel_rfl)) (g_var (by kernel_rfl)))))))
    sb_nil))))
def N__law_odd_tree : List Str := [("_law_row_here" : Str), ("_law_things" : Str), ("_law_lots_here" : Str), ("_law_tree" : Str), ("_law_way" : Str), ("_law_hit" : Str), ("_law_rest" : Str), ("_law_bad" : Str), ("_law_there" : Str), ("_law_odd" : Str), ("_law_lot_here" : Str), ("_law_thing" : Str)]
theorem nd__law_odd_tree : N__law_odd_tree.Nodup := by decide +kernel
theorem sc__law_odd_tree : FnScope N__law_odd_tree [("_law_row_here" : Str), ("_law_things" : Str), ("_law_lots_here" : Str), ("_law_tree" : Str), ("_law_way" : Str)] (defScope s__law_odd_tree) := ⟨by kernel_rfl, by kernel_rfl, by kernel_rfl, nd__law_odd_tree, by kernel_rfl, by decide +kernel, by decide +kernel⟩
theorem b__law_odd_tree (D : Facts K mg) {n : Nat} (A : AllF D P w base n) {cdv : Value} {Ar : Around} {outer : List Env} {s : Shared} {H : Hp} {E : XK} {M0 : Addr → Prop} (hr : Room (3 * n + 2) (Ar.deeper (envOfC ("_law_odd_tree" : Str) (defScope s__law_odd_tree) s.heap.objs.size (He.fAd K (("_law_odd_tree" : Str), none)) cdv))) :
    SB (cxD P w K mg base N__law_odd_tree ("_law_odd_tree" : Str) (defScope s__law_odd_tree) (He.fAd K (("_law_odd_tree" : Str), none)) cdv Ar outer s H E) (caK K) E M0 (lk Tt n false) (defBody s__law_odd_tree) d__law_odd_tree.body :=
  have k : Ctx (cxD P w K mg base N__law_odd_tree ("_law_odd_tree" : Str) (defScope s__law_odd_tree) (He.fAd K (("_law_odd_tree" : Str), none)) cdv Ar outer s H E) (WO E) n := ⟨takesD, hr.mono (by omega)⟩
  have WD := WDof D
  (sb_cons (ss_ite (sw_and (gt_cmp (op := .eq) k rfl (g_idx (g_var (by kernel_rfl)) g_int (fun _ _ => rfl)) g_str) (sw_and1 (gt_cmp (op := .gt) k rfl (g_call k A._law_taken D.b__law_taken rfl (by kernel_rfl) rfl (ga_cons rfl (g_var (by kernel_rfl)) (ga_cons rfl g_int sa_nil))) g_int))).pt (sb_cons (g_set rfl nd__law_odd_tree (by kernel_rfl) (by kernel_rfl) (g_comp (own := [(("_law_lot_here" : Str), 10)]) rfl rfl rfl rfl nd__law_odd_tree (by kernel_rfl) (fun _ => rfl) (si_seq (g_var (by kernel_rfl))) (fun _ _ _ _ _ => (gg_var nd__law_odd_tree (by kernel_rfl))) (fun _ _ _ _ _ => (sc_one (gt_cmp (op := .ne) (Ctx.blk k) rfl (g_comp (own := [(("_law_thing" : Str), 11)]) rfl rfl rfl rfl nd__law_odd_tree (by kernel_rfl) (fun _ => rfl) (si_seq (g_idx (g_var (by kernel_rfl)) g_int (fun _ _ => rfl))) (fun _ _ _ _ _ => (gg_var nd__law_odd_tree (by kernel_rfl))) (fun _ _ _ _ _ => (sc_one (gt_cmp (op := .mem) (Ctx.blk (Ctx.blk k)) rfl (g_var (by kernel_rfl)) (g_var (by kernel_rfl))))) (fun _ _ _ _ _ => (g_var (by kernel_rfl)))) (snd_lst sa_nil)))) (fun _ _ _ _ _ => (g_var (by kernel_rfl)))))
    (sb_cons (g_setC (by kernel_rfl) (by kernel_rfl) (own := [(("_law_lot_here" : Str), 10)]) rfl rfl rfl rfl nd__law_odd_tree (by kernel_rfl) (fun _ => rfl) (si_seq (g_var (by kernel_rfl))) (fun _ _ _ _ _ => (gg_var nd__law_odd_tree (by kernel_rfl))) (fun _ _ _ _ _ => (sc_one (gt_cmp (op := .nmem) (Ctx.blk k) rfl (g_var (by kernel_rfl)) (g_var (by kernel_rfl))))) (fun _ _ _ _ _ => (g_var (by kernel_rfl))))
    (sb_cons (ss_ite (gt_cmp (op := .eq) k rfl (g_call k A._law_taken D.b__law_taken rfl (by kernel_rfl) rfl (ga_cons rfl (g_var (by kernel_rfl)) (ga_cons rfl g_int sa_nil))) g_int) (sb_cons (g_unp rfl rfl (by kernel_rfl) rfl (g_call k A._law_odd_tree D.b__law_odd_tree rfl (by kernel_rfl) rfl (ga_cons rfl (g_var (by kernel_rfl)) (ga_cons rfl (g_var (by kernel_rfl)) (ga_cons rfl (g_var (by kernel_rfl)) (ga_cons rfl (g_idx (g_var (by kernel_rfl)) g_int (fun _ _ => rfl)) (ga_cons rfl (snd_bin (op := .add) (g_var (by kernel_rfl)) (snd_tup (ga_cons rfl g_int sa_nil))) sa_nil)))))) (sg_tup rfl (sgs_cons (gg_var nd__law_odd_tree (by kernel_rfl)) (sgs_cons (gg_var nd__law_odd_tree (by kernel_rfl)) sgs_nil rfl) rfl) rfl rfl))
    (sb_cons (ss_ret rfl (snd_tup (ga_cons rfl (snd_tup (ga_cons rfl g_str (ga_cons rfl (g_idx (g_var (by kernel_rfl)) g_int (fun _ _ => rfl)) (ga_cons rfl (g_var (by kernel_rfl)) (ga_cons rfl (g_idx (snd_lst (ga_cons rfl (g_idx (g_var (by kernel_rfl)) g_int (fun _ _ => rfl)) (ga_cons rfl g_non sa_nil))) (g_call k A._law_taken D.b__law_taken rfl (by kernel_rfl) rfl (ga_cons rfl (g_var (by kernel_rfl)) (ga_cons rfl g_int sa_nil))) (fun _ _ => rfl)) sa_nil))))) (ga_cons rfl (g_var (by kernel_rfl)) sa_nil))))
    sb_nil)) sb_nil)
    (sb_cons (g_unp rfl rfl (by kernel_rfl) rfl (g_call k A._law_odd_tree D.b__law_odd_tree rfl (by kernel_rfl) rfl (ga_cons rfl (g_var (by kernel_rfl)) (ga_cons rfl (g_var (by kernel_rfl)) (ga_cons rfl (g_var (by kernel_rfl)) (ga_cons rfl (g_idx (g_var (by kernel_rfl)) g_int (fun _ _ => rfl)) (ga_cons rfl (snd_bin (op := .add) (g_var (by kernel_rfl)) (snd_tup (ga_cons rfl g_int sa_nil))) sa_nil)))))) (sg_tup rfl (sgs_cons (gg_var nd__law_odd_tree (by kernel_rfl)) (sgs_cons (gg_var nd__law_odd_tree (by kernel_rfl)) sgs_nil rfl) rfl) rfl rfl))
    (sb_cons (ss_ret rfl (snd_tup (ga_cons rfl (snd_tup (ga_cons rfl g_str (ga_cons rfl (g_idx (g_var (by kernel_rfl)) g_int (fun _ _ => rfl)) (ga_cons rfl (g_idx (g_var (by kernel_rfl)) g_int (fun _ _ => rfl)) (ga_cons rfl (g_var (by kernel_rfl)) sa_nil))))) (ga_cons rfl (g_var (by kernel_rfl)) sa_nil))))
    sb_nil))))) sb_nil)
    (sb_cons (g_set rfl nd__law_odd_tree (by kernel_rfl) rfl (snd_lst (ga_cons rfl (snd_tup sa_nil) (ga_cons rfl g_non (ga_cons rfl g_int (ga_cons rfl (snd_tup (ga_cons rfl g_str sa_nil)) (ga_cons rfl (snd_tup (ga_cons rfl g_str (ga_cons rfl (g_idx (g_var (by kernel_rfl)) g_int (fun _ _ => rfl)) sa_nil))) (ga_cons rfl (snd_tup (ga_cons rfl g_str (ga_cons rfl (g_idx (g_var (by kernel_rfl)) g_int (fun _ _ => rfl)) (ga_cons rfl g_int sa_nil)))) (ga_cons rfl (snd_tup (ga_cons rfl g_str (ga_cons rfl (snd_tup (ga_cons rfl g_int sa_nil)) (ga_cons rfl (g_var (by kernel_rfl)) sa_nil)))) (ga_cons rfl (g_list D.f_list (by kernel_rfl) rfl (g_var (by kernel_rfl))) sa_nil))))))))))
    (sb_cons (g_set rfl nd__law_odd_tree (by kernel_rfl) rfl (snd_bin (op := .add) (g_var (by kernel_rfl)) (snd_lst (ga_cons rfl (snd_tup (ga_cons rfl g_str (ga_cons rfl (snd_tup (ga_cons rfl g_int sa_nil)) sa_nil))) (ga_cons rfl (snd_tup (ga_cons rfl g_str (ga_cons rfl (snd_tup sa_nil) (ga_cons rfl (g_var (by kernel_rfl)) (ga_cons rfl (g_var (by kernel_rfl)) sa_nil))))) (ga_cons rfl (snd_tup (ga_cons rfl g_str (ga_cons rfl (snd_tup (ga_cons rfl (g_var (by kernel_rfl)) sa_nil)) (ga_cons rfl (g_var (by kernel_rfl)) (ga_cons rfl (g_var (by kernel_rfl)) sa_nil))))) sa_nil))))))
    (sb_cons (g_set rfl nd__law_odd_tree (by kernel_rfl) rfl (snd_bin (op := .add) (g_var (by kernel_rfl)) (snd_lst (ga_cons rfl (snd_tup (ga_cons rfl g_str (ga_cons rfl (snd_lst (ga_cons rfl g_int sa_nil)) (ga_cons rfl (g_var (by kernel_rfl)) (ga_cons rfl (g_var (by kernel_rfl)) sa_nil))))) (ga_cons rfl g_str (ga_cons rfl (snd_tup (ga_cons rfl g_int (ga_cons rfl g_int sa_nil))) sa_nil))))))
    (sb_cons (ss_ite (gt_cmp (op := .gt) k rfl (g_len D.f_len (by kernel_rfl) rfl (g_var (by kernel_rfl))) g_int) (sb_cons (g_set rfl nd__law_odd_tree (by kernel_rfl) rfl (snd_bin (op := .add) (g_var (by kernel_rfl)) (snd_bin (op := .mul) (snd_lst (ga_cons rfl (snd_tup (ga_cons rfl g_str (ga_cons rfl (g_idx (g_var (by kernel_rfl)) g_int (fun _ _ => rfl)) sa_nil))) sa_nil)) g_int)))
    sb_nil) (sb_cons (g_set rfl nd__law_odd_tree (by kernel_rfl) rfl (snd_bin (op := .add) (g_var (by kernel_rfl)) (snd_bin (op := .mul) (snd_lst (ga_cons rfl (snd_tup (ga_cons rfl g_str (ga_cons rfl (g_rgT rfl D.f_tuple D.f_range (by kernel_rfl) (by kernel_rfl) rfl (ga_cons rfl (g_var (by kernel_rfl)) sa_nil)) (ga_cons rfl (g_var (by kernel_rfl)) (ga_cons rfl (g_var (by kernel_rfl)) sa_nil))))) sa_nil)) g_int)))
    sb_nil))
    (sb_cons (ss_ret rfl (snd_tup (ga_cons rfl (g_idx (g_var (by kernel_rfl)) (g_call k A._law_taken D.b__law_taken rfl (by kernel_rfl) rfl (ga_cons rfl (g_var (by kernel_rfl)) (ga_cons rfl g_int sa_nil))) (fun _ _ => rfl)) (ga_cons rfl (g_var (by kernel_rfl)) sa_nil))))
    sb_nil))))))
def N_law : List Str := [("_law_script" : Str), ("_law_row_here" : Str), ("_law_turn" : Str), ("_law_things" : Str), ("_law_most" : Str), ("_law_lots_here" : Str), ("_law_tree" : Str), ("_law_due" : Str), ("_law_again" : Str), ("_law_told" : Str), ("_law_bad" : Str), ("_law_way" : Str)]
theorem nd_law : N_law.Nodup := by decide +kernel
theorem sc_law : FnScope N_law [("_law_script" : Str)] (defScope s_law) := ⟨by kernel_rfl, by kernel_rfl, by kernel_rfl, nd_law, by kernel_rfl, by decide +kernel, by decide +kernel⟩
theorem b_law (D : Facts K mg) {n : Nat} (A : AllF D P w base n) (TB_law : LamX.TabB base mg (He.cT K (("law" : Str), none)).1 (He.cT K (("law" : Str), none)).2) {cdv : Value} {Ar : Around} {outer : List Env} {s : Shared} {H : Hp} {E : XK} {M0 : Addr → Prop} (hcode : cdv = .ref (He.cT K (("law" : Str), none)).1) (hr : Room (3 * n + 2) (Ar.deeper (envOfC ("law" : Str) (defScope s_law) s.heap.objs.size (He.fAd K (("law" : Str), none)) cdv))) :
    SB (cxD P w K mg base N_law ("law" : Str) (defScope s_law) (He.fAd K (("law" : Str), none)) cdv Ar outer s H E) (caK K) E M0 (lk Tt n false) (defBody s_law) d_law.body :=
  have k : Ctx (cxD P w K mg base N_law ("law" : Str) (defScope s_law) (He.fAd K (("law" : Str), none)) cdv Ar outer s H E) (WO E) n := ⟨takesD, hr.mono (by omega)⟩
  have WD := WDof D
  (sb_cons (g_set rfl nd_law (by kernel_rfl) rfl (g_call k A._law_row D.b__law_row rfl (by kernel_rfl) rfl (ga_cons rfl (g_var (by kernel_rfl)) sa_nil)))
    (sb_cons (ss_for rfl passD rfl (g_rng1 D.f_range (by kernel_rfl) rfl g_int) (gg_var nd_law (by kernel_rfl)) (sb_cons (g_unp rfl rfl (by kernel_rfl) rfl (g_idx (snd_lst (ga_cons rfl (snd_tup (ga_cons rfl g_int (ga_cons rfl g_int sa_nil))) (ga_cons rfl (snd_tup (ga_cons rfl g_int (ga_cons rfl g_int sa_nil))) (ga_cons rfl (snd_tup (ga_cons rfl g_int (ga_cons rfl g_int sa_nil))) (ga_cons rfl (snd_tup (ga_cons rfl g_int (ga_cons rfl g_int sa_nil))) (ga_cons rfl (snd_tup (ga_cons rfl g_int (ga_cons rfl g_int sa_nil))) (ga_cons rfl (snd_tup (ga_cons rfl g_int (ga_cons rfl g_int sa_nil))) (ga_cons rfl (snd_tup (ga_cons rfl g_int (ga_cons rfl g_int sa_nil))) (ga_cons rfl (snd_tup (ga_cons rfl g_int (ga_cons rfl g_int sa_nil))) sa_nil))))))))) (g_call k A._law_taken D.b__law_taken rfl (by kernel_rfl) rfl (ga_cons rfl (g_var (by kernel_rfl)) (ga_cons rfl g_int sa_nil))) (fun _ _ => rfl)) (sg_tup rfl (sgs_cons (gg_var nd_law (by kernel_rfl)) (sgs_cons (gg_var nd_law (by kernel_rfl)) sgs_nil rfl) rfl) rfl rfl))
    (sb_cons (g_set rfl nd_law (by kernel_rfl) rfl (g_call k A._law_lots D.b__law_lots rfl (by kernel_rfl) rfl (ga_cons rfl (g_var (by kernel_rfl)) (ga_cons rfl (g_var (by kernel_rfl)) sa_nil))))
    (sb_cons (g_unp rfl rfl (by kernel_rfl) rfl (g_call k A._law_drawn D.b__law_drawn rfl (by kernel_rfl) rfl (ga_cons rfl (g_var (by kernel_rfl)) (ga_cons rfl (g_var (by kernel_rfl)) (ga_cons rfl (g_var (by kernel_rfl)) (ga_cons rfl (snd_tup sa_nil) sa_nil))))) (sg_tup rfl (sgs_cons (gg_var nd_law (by kernel_rfl)) (sgs_cons (gg_var nd_law (by kernel_rfl)) sgs_nil rfl) rfl) rfl rfl))
    (sb_cons (ss_for rfl passD rfl (g_rng1 D.f_range (by kernel_rfl) rfl g_int) (gg_var nd_law (by kernel_rfl)) (sb_cons (g_setO rfl nd_law (by kernel_rfl) rfl (g_call k A.read_tree D.b_read_tree rfl (by kernel_rfl) rfl (ga_cons rfl (g_var (by kernel_rfl)) (ga_cons rfl (g_var (by kernel_rfl)) (ga_cons rfl (g_var (by kernel_rfl)) sa_nil)))))
    (sb_cons (ss_ite (st_not (st_val rfl (g_callb k A._law_alike D.b__law_alike rfl (by kernel_rfl) rfl (ga_cons rfl (g_bor (by kernel_rfl)) (ga_cons rfl (g_sortF k D.f_sorted D.f_len (by kernel_rfl) rfl TB_law hcode (tm_law (K := K)) (th_law D.nq) rfl (by kernel_rfl) (fun _ _ _ _ _ _ => rfl) (g_var (by kernel_rfl))) sa_nil))) (fun _ => rfl))) (sb_cons (ss_ret rfl g_bl)
    sb_nil) sb_nil)
    (sb_cons (g_app rfl (by kernel_rfl) rfl rfl (snd_tup sa_nil))
    sb_nil))) (fun _ => rfl))
    (sb_cons (g_unp rfl rfl (by kernel_rfl) rfl (g_call k A._law_odd_tree D.b__law_odd_tree rfl (by kernel_rfl) rfl (ga_cons rfl (g_var (by kernel_rfl)) (ga_cons rfl (g_var (by kernel_rfl)) (ga_cons rfl (g_var (by kernel_rfl)) (ga_cons rfl (g_var (by kernel_rfl)) (ga_cons rfl (snd_tup sa_nil) sa_nil)))))) (sg_tup rfl (sgs_cons (gg_var nd_law (by kernel_rfl)) (sgs_cons (gg_var nd_law (by kernel_rfl)) sgs_nil rfl) rfl) rfl rfl))
    (sb_cons (ss_ite (st_not (st_val rfl (g_call k A._law_alike D.b__law_alike rfl (by kernel_rfl) rfl (ga_cons rfl (g_word hr (WD P w base) rfl (by kernel_rfl) TB_law hcode (tm_law (K := K)) (th_law D.nq) (by kernel_rfl) rfl (fun _ _ _ _ _ => rfl) (fun _ _ _ _ _ _ _ hr2 => (g_call (ctx_lam hr2) A.read_tree D.b_read_tree rfl (by kernel_rfl) rfl (ga_cons rfl (g_var (by kernel_rfl)) (ga_cons rfl (g_var (by kernel_rfl)) (ga_cons rfl (g_var (by kernel_rfl)) sa_nil)))))) (ga_cons rfl (snd_tup (ga_cons rfl g_str (ga_cons rfl (g_var (by kernel_rfl)) sa_nil))) sa_nil))) (fun _ => rfl))) (sb_cons (ss_ret rfl g_bl)
    sb_nil) sb_nil)
    sb_nil)))))) (fun _ => rfl))
    (sb_cons (ss_ret rfl g_bl)
    sb_nil)))
end
section
variable {P : Program} {w : World} {K : PySem.W.Frag} {mg : Str → Option Value} {base : Heap}
theorem allF (D : Facts K mg) (TB_read_tree : LamX.TabB base mg (He.cT K (("read_tree" : Str), none)).1 (He.cT K (("read_tree" : Str), none)).2) (TB__law_lots : LamX.TabB base mg (He.cT K (("_law_lots" : Str), none)).1 (He.cT K (("_law_lots" : Str), none)).2) (TB_law : LamX.TabB base mg (He.cT K (("law" : Str), none)).1 (He.cT K (("law" : Str), none)).2) : ∀ n, AllF D P w base n
  | 0 => ⟨fnAt_zero D.m_is_number D.F_is_number.kp rfl,
    fnAt_zero D.m_is_lot D.F_is_lot.kp rfl,
    fnAt_zero D.m_need_count D.F_need_count.kp rfl,
    fnAt_zero D.m_rising D.F_rising.kp rfl,
    fnAt_zero D.m_all_lots D.F_all_lots.kp rfl,
    fnAt_zero D.m_answer_of D.F_answer_of.kp rfl,
    fnAt_zero D.m_parted D.F_parted.kp rfl,
    fnAt_zero D.m_need_tree_counts D.F_need_tree_counts.kp rfl,
    fnAt_zero D.m_walked D.F_walked.kp rfl,
    fnAt_zero D.m_read_tree D.F_read_tree.kp rfl,
    fnAt_zero D.m__law_row D.F__law_row.kp rfl,
    fnAt_zero D.m__law_taken D.F__law_taken.kp rfl,
    fnAt_zero D.m__law_lots D.F__law_lots.kp rfl,
    fnAt_zero D.m__law_lot D.F__law_lot.kp rfl,
    fnAt_zero D.m__law_drawn D.F__law_drawn.kp rfl,
    fnAt_zero D.m__law_alike D.F__law_alike.kp rfl,
    fnAt_zero D.m__law_odd_tree D.F__law_odd_tree.kp rfl,
    fnAt_zero D.m_law D.F_law.kp rfl⟩
  | n + 1 =>
    have A : AllF D P w base n := allF D TB_read_tree TB__law_lots TB_law n
    ⟨fn_mk (d := d_is_number) D.F_is_number sc_is_number rfl rfl rfl rfl D.m_is_number (fun _ _ _ _ _ _ _ _ hr => b_is_number D A hr),
    fn_mk (d := d_is_lot) D.F_is_lot sc_is_lot rfl rfl rfl rfl D.m_is_lot (fun _ _ _ _ _ _ _ _ hr => b_is_lot D A hr),
    fn_mk (d := d_need_count) D.F_need_count sc_need_count rfl rfl rfl rfl D.m_need_count (fun _ _ _ _ _ _ _ _ hr => b_need_count D A hr),
    fn_mk (d := d_rising) D.F_rising sc_rising rfl rfl rfl rfl D.m_rising (fun _ _ _ _ _ _ _ _ hr => b_rising D A hr),
    fn_mk (d := d_all_lots) D.F_all_lots sc_all_lots rfl rfl rfl rfl D.m_all_lots (fun _ _ _ _ _ _ _ _ hr => b_all_lots D A hr),
    fn_mk (d := d_answer_of) D.F_answer_of sc_answer_of rfl rfl rfl rfl D.m_answer_of (fun _ _ _ _ _ _ _ _ hr => b_answer_of D A hr),
    fn_mk (d := d_parted) D.F_parted sc_parted rfl rfl rfl rfl D.m_parted (fun _ _ _ _ _ _ _ _ hr => b_parted D A hr),
    fn_mk (d := d_need_tree_counts) D.F_need_tree_counts sc_need_tree_counts rfl rfl rfl rfl D.m_need_tree_counts (fun _ _ _ _ _ _ _ _ hr => b_need_tree_counts D A hr),
    fn_mk (d := d_walked) D.F_walked sc_walked rfl rfl rfl rfl D.m_walked (fun _ _ _ _ _ _ _ _ hr => b_walked D A hr),
    fn_mk (d := d_read_tree) D.F_read_tree sc_read_tree rfl rfl rfl rfl D.m_read_tree (fun _ _ _ _ _ _ _ hc hr => b_read_tree D A TB_read_tree (hc.symm.trans (code_of D.F_read_tree)) hr),
    fn_mk (d := d__law_row) D.F__law_row sc__law_row rfl rfl rfl rfl D.m__law_row (fun _ _ _ _ _ _ _ _ hr => b__law_row D A hr),
    fn_mk (d := d__law_taken) D.F__law_taken sc__law_taken rfl rfl rfl rfl D.m__law_taken (fun _ _ _ _ _ _ _ _ hr => b__law_taken D A hr),
    fn_mk (d := d__law_lots) D.F__law_lots sc__law_lots rfl rfl rfl rfl D.m__law_lots (fun _ _ _ _ _ _ _ hc hr => b__law_lots D A TB__law_lots (hc.symm.trans (code_of D.F__law_lots)) hr),
    fn_mk (d := d__law_lot) D.F__law_lot sc__law_lot rfl rfl rfl rfl D.m__law_lot (fun _ _ _ _ _ _ _ _ hr => b__law_lot D A hr),
    fn_mk (d := d__law_drawn) D.F__law_drawn sc__law_drawn rfl rfl rfl rfl D.m__law_drawn (fun _ _ _ _ _ _ _ _ hr => b__law_drawn D A hr),
    fn_mk (d := d__law_alike) D.F__law_alike sc__law_alike rfl rfl rfl rfl D.m__law_alike (fun _ _ _ _ _ _ _ _ hr => b__law_alike D A hr),
    fn_mk (d := d__law_odd_tree) D.F__law_odd_tree sc__law_odd_tree rfl rfl rfl rfl D.m__law_odd_tree (fun _ _ _ _ _ _ _ _ hr => b__law_odd_tree D A hr),
    fn_mk (d := d_law) D.F_law sc_law rfl rfl rfl rfl D.m_law (fun _ _ _ _ _ _ _ hc hr => b_law D A TB_law (hc.symm.trans (code_of D.F_law)) hr)⟩
end
/-! ### the head -/
def dd_is_number : He.DefD := ⟨(("is_number" : Str), none), ("is_number" : Str), ("is_number" : Str), defArgs s_is_number, defBody s_is_number, defScope s_is_number, [], []⟩
def dd_is_lot : He.DefD := ⟨(("is_lot" : Str), none), ("is_lot" : Str), ("is_lot" : Str), defArgs s_is_lot, defBody s_is_lot, defScope s_is_lot, [], []⟩
def dd_need_count : He.DefD := ⟨(("need_count" : Str), none), ("need_count" : Str), ("need_count" : Str), defArgs s_need_count, defBody s_need_count, defScope s_need_count, [], []⟩
def dd_rising : He.DefD := ⟨(("rising" : Str), none), ("rising" : Str), ("rising" : Str), defArgs s_rising, defBody s_rising, defScope s_rising, [], []⟩
def dd_all_lots : He.DefD := ⟨(("all_lots" : Str), none), ("all_lots" : Str), ("all_lots" : Str), defArgs s_all_lots, defBody s_all_lots, defScope s_all_lots, [], []⟩
def dd_answer_of : He.DefD := ⟨(("answer_of" : Str), none), ("answer_of" : Str), ("answer_of" : Str), defArgs s_answer_of, defBody s_answer_of, defScope s_answer_of, [], []⟩
def dd_parted : He.DefD := ⟨(("parted" : Str), none), ("parted" : Str), ("parted" : Str), defArgs s_parted, defBody s_parted, defScope s_parted, [], []⟩
def dd_need_tree_counts : He.DefD := ⟨(("need_tree_counts" : Str), none), ("need_tree_counts" : Str), ("need_tree_counts" : Str), defArgs s_need_tree_counts, defBody s_need_tree_counts, defScope s_need_tree_counts, [], []⟩
def dd_walked : He.DefD := ⟨(("walked" : Str), none), ("walked" : Str), ("walked" : Str), defArgs s_walked, defBody s_walked, defScope s_walked, [], []⟩
def dd_read_tree : He.DefD := ⟨(("read_tree" : Str), none), ("read_tree" : Str), ("read_tree" : Str), defArgs s_read_tree, defBody s_read_tree, defScope s_read_tree, [], []⟩
def dd__law_row : He.DefD := ⟨(("_law_row" : Str), none), ("_law_row" : Str), ("_law_row" : Str), defArgs s__law_row, defBody s__law_row, defScope s__law_row, [], []⟩
def dd__law_taken : He.DefD := ⟨(("_law_taken" : Str), none), ("_law_taken" : Str), ("_law_taken" : Str), defArgs s__law_taken, defBody s__law_taken, defScope s__law_taken, [], []⟩
def dd__law_lots : He.DefD := ⟨(("_law_lots" : Str), none), ("_law_lots" : Str), ("_law_lots" : Str), defArgs s__law_lots, defBody s__law_lots, defScope s__law_lots, [], []⟩
def dd__law_lot : He.DefD := ⟨(("_law_lot" : Str), none), ("_law_lot" : Str), ("_law_lot" : Str), defArgs s__law_lot, defBody s__law_lot, defScope s__law_lot, [], []⟩
def dd__law_drawn : He.DefD := ⟨(("_law_drawn" : Str), none), ("_law_drawn" : Str), ("_law_drawn" : Str), defArgs s__law_drawn, defBody s__law_drawn, defScope s__law_drawn, [], []⟩
def dd__law_alike : He.DefD := ⟨(("_law_alike" : Str), none), ("_law_alike" : Str), ("_law_alike" : Str), defArgs s__law_alike, defBody s__law_alike, defScope s__law_alike, [], []⟩
def dd__law_odd_tree : He.DefD := ⟨(("_law_odd_tree" : Str), none), ("_law_odd_tree" : Str), ("_law_odd_tree" : Str), defArgs s__law_odd_tree, defBody s__law_odd_tree, defScope s__law_odd_tree, [], []⟩
def dd_law : He.DefD := ⟨(("law" : Str), none), ("law" : Str), ("law" : Str), defArgs s_law, defBody s_law, defScope s_law, [], []⟩
def dd__law_word : He.DefD := ⟨(("_law_word" : Str), none), ("_law_word" : Str), ("_law_word" : Str), defArgs s__law_word, defBody s__law_word, defScope s__law_word, [], []⟩
def inCls (s : Stmt) (j : Nat) : Stmt := match s with | .ClassDef _ _ _ b _ _ _ _ _ _ _ => b.getD j (.Pass ⟨0, 0, 0, 0⟩) | _ => .Pass ⟨0, 0, 0, 0⟩
abbrev si_BadTree : Stmt := inCls (top 8) 0
theorem sci_BadTree : FnScope ["self", ("way" : Str)] ["self", ("way" : Str)] (defScope si_BadTree) := ⟨by kernel_rfl, by kernel_rfl, by kernel_rfl, by decide +kernel, by kernel_rfl, by decide +kernel, by decide +kernel⟩
def di_BadTree : He.DefD := ⟨(("BadTree" : Str), some "__init__"), "__init__", ("BadTree.__init__" : Str), defArgs si_BadTree, defBody si_BadTree, defScope si_BadTree, [], []⟩
def fnL : List He.DefD := [dd_is_number, dd_is_lot, dd_need_count, dd_rising, dd_all_lots, dd_answer_of, dd_parted, dd_need_tree_counts, dd_walked, dd_read_tree, dd__law_row, dd__law_taken, dd__law_lots, dd__law_lot, dd__law_drawn, dd__law_alike, dd__law_odd_tree, dd_law, dd__law_word, di_BadTree]
def faL : List He.Fa := [.free ("ValueError" : Str), .free ("all" : Str), .free ("any" : Str), .free ("bool" : Str), .free ("int" : Str), .free ("isinstance" : Str), .free ("len" : Str), .free ("list" : Str), .free ("min" : Str), .free ("range" : Str), .free ("sorted" : Str), .free ("str" : Str), .free ("tuple" : Str), .int ("MOST_THINGS" : Str) 10, .int ("MOST_BAD" : Str) 3, .glo ("is_number" : Str), .glo ("is_lot" : Str), .glo ("need_count" : Str), .glo ("rising" : Str), .glo ("all_lots" : Str), .glo ("answer_of" : Str), .glo ("parted" : Str), .glo ("need_tree_counts" : Str), .glo ("walked" : Str), .glo ("read_tree" : Str), .glo ("_law_row" : Str), .glo ("_law_taken" : Str), .glo ("_law_lots" : Str), .glo ("_law_lot" : Str), .glo ("_law_drawn" : Str), .glo ("_law_alike" : Str), .glo ("_law_odd_tree" : Str), .glo ("law" : Str), .glo ("_law_word" : Str), .glo ("BadPlan" : Str), .glo ("BadAnswers" : Str), .glo ("BadLot" : Str), .glo ("BadCount" : Str), .glo ("BadChances" : Str), .glo ("NoLot" : Str), .glo ("BadTree" : Str), .glo ("BadDeed" : Str), .glo ("Halted" : Str), .glo ("BadText" : Str), .glo ("ProbeError" : Str)]
def tfL : List He.Defn := tfQ.map (·.1)
def exK (K : PySem.W.Frag) : Bool := decide (((caK K).tabs.map (·.1)).Nodup) && wfB K && iniB K (He.ga K "ProbeError") && rz0B K .badCount && rz1B K .badTree ("way" : Str)
abbrev RR : PySem.W.OpenRow := PySem.W.OpenLaw.row PySem.Challenge.rw_probelots_k09_trees_read
abbrev hkk : PySem.W.Hook := hookS 4 faL fnL [] tfL exK
def obb (s : PySem.W.SharedT) : He.AlX := obsS 4 faL fnL [] tfL exK (HandSHeadRun.getT s)
theorem obb_eq (s : PySem.W.SharedT) : obb s = hkk.obs s.abs := obsS_eq (HandSHeadRun.getT_eq s)
def loose : List Str := [("ProbeError" : Str), ("BadPlan" : Str), ("BadAnswers" : Str), ("BadLot" : Str), ("BadCount" : Str), ("BadChances" : Str), ("NoLot" : Str), ("BadTree" : Str), ("BadDeed" : Str), ("Halted" : Str), ("BadText" : Str), ("MOST_THINGS" : Str), ("MOST_BAD" : Str), ("is_number" : Str), ("is_lot" : Str), ("need_count" : Str), ("rising" : Str), ("all_lots" : Str), ("answer_of" : Str), ("parted" : Str), ("need_tree_counts" : Str), ("walked" : Str), ("read_tree" : Str), ("_law_row" : Str), ("_law_taken" : Str), ("_law_lots" : Str), ("_law_lot" : Str), ("_law_drawn" : Str), ("_law_alike" : Str), ("_law_odd_tree" : Str), ("_law_word" : Str)]
theorem runT (w : World) : HandSHeadRun.RunEq RR (PySem.W.view RR.prog [35]) hkk obb 4000 loose w := by
  intro os
  kernel_rfl
section
variable {w : World} {K : PySem.W.Frag} {h : Heap} {mg : Str → Option Value}
theorem facts_of (X : K.In h) (G : h.Ns mainGlobals mg) (c : He.SaysX faL fnL [] tfL exK w h K) : Nonempty (Facts K mg) := by
  obtain ⟨fd0, F0⟩ := c.t.d.def_ 0 (d := dd_is_number) rfl
  obtain ⟨fd1, F1⟩ := c.t.d.def_ 1 (d := dd_is_lot) rfl
  obtain ⟨fd2, F2⟩ := c.t.d.def_ 2 (d := dd_need_count) rfl
  obtain ⟨fd3, F3⟩ := c.t.d.def_ 3 (d := dd_rising) rfl
  obtain ⟨fd4, F4⟩ := c.t.d.def_ 4 (d := dd_all_lots) rfl
  obtain ⟨fd5, F5⟩ := c.t.d.def_ 5 (d := dd_answer_of) rfl
  obtain ⟨fd6, F6⟩ := c.t.d.def_ 6 (d := dd_parted) rfl
  obtain ⟨fd7, F7⟩ := c.t.d.def_ 7 (d := dd_need_tree_counts) rfl
  obtain ⟨fd8, F8⟩ := c.t.d.def_ 8 (d := dd_walked) rfl
  obtain ⟨fd9, F9⟩ := c.t.d.def_ 9 (d := dd_read_tree) rfl
  obtain ⟨fd10, F10⟩ := c.t.d.def_ 10 (d := dd__law_row) rfl
  obtain ⟨fd11, F11⟩ := c.t.d.def_ 11 (d := dd__law_taken) rfl
  obtain ⟨fd12, F12⟩ := c.t.d.def_ 12 (d := dd__law_lots) rfl
  obtain ⟨fd13, F13⟩ := c.t.d.def_ 13 (d := dd__law_lot) rfl
  obtain ⟨fd14, F14⟩ := c.t.d.def_ 14 (d := dd__law_drawn) rfl
  obtain ⟨fd15, F15⟩ := c.t.d.def_ 15 (d := dd__law_alike) rfl
  obtain ⟨fd16, F16⟩ := c.t.d.def_ 16 (d := dd__law_odd_tree) rfl
  obtain ⟨fd17, F17⟩ := c.t.d.def_ 17 (d := dd_law) rfl
  obtain ⟨fd18, F18⟩ := c.t.d.def_ 18 (d := dd__law_word) rfl
  obtain ⟨fi_BadTree, FI_BadTree⟩ := c.t.d.def_ 19 (d := di_BadTree) rfl
  have ex := c.more
  unfold exK at ex
  simp only [Bool.and_eq_true, decide_eq_true_eq] at ex
  obtain ⟨⟨⟨⟨e0, e1⟩, e2⟩, e3⟩, e4⟩ := ex
  have g_BadPlan : mg ("BadPlan" : Str) = some (.ref (He.ga K ("BadPlan" : Str))) := He.glo_ok X G (c.t.d.fact 34 (f := .glo ("BadPlan" : Str)) rfl)
  have g_BadAnswers : mg ("BadAnswers" : Str) = some (.ref (He.ga K ("BadAnswers" : Str))) := He.glo_ok X G (c.t.d.fact 35 (f := .glo ("BadAnswers" : Str)) rfl)
  have g_BadLot : mg ("BadLot" : Str) = some (.ref (He.ga K ("BadLot" : Str))) := He.glo_ok X G (c.t.d.fact 36 (f := .glo ("BadLot" : Str)) rfl)
  have g_BadCount : mg ("BadCount" : Str) = some (.ref (He.ga K ("BadCount" : Str))) := He.glo_ok X G (c.t.d.fact 37 (f := .glo ("BadCount" : Str)) rfl)
  have g_BadChances : mg ("BadChances" : Str) = some (.ref (He.ga K ("BadChances" : Str))) := He.glo_ok X G (c.t.d.fact 38 (f := .glo ("BadChances" : Str)) rfl)
  have g_NoLot : mg ("NoLot" : Str) = some (.ref (He.ga K ("NoLot" : Str))) := He.glo_ok X G (c.t.d.fact 39 (f := .glo ("NoLot" : Str)) rfl)
  have g_BadTree : mg ("BadTree" : Str) = some (.ref (He.ga K ("BadTree" : Str))) := He.glo_ok X G (c.t.d.fact 40 (f := .glo ("BadTree" : Str)) rfl)
  have g_BadDeed : mg ("BadDeed" : Str) = some (.ref (He.ga K ("BadDeed" : Str))) := He.glo_ok X G (c.t.d.fact 41 (f := .glo ("BadDeed" : Str)) rfl)
  have g_Halted : mg ("Halted" : Str) = some (.ref (He.ga K ("Halted" : Str))) := He.glo_ok X G (c.t.d.fact 42 (f := .glo ("Halted" : Str)) rfl)
  have g_BadText : mg ("BadText" : Str) = some (.ref (He.ga K ("BadText" : Str))) := He.glo_ok X G (c.t.d.fact 43 (f := .glo ("BadText" : Str)) rfl)
  have g_ProbeError : mg ("ProbeError" : Str) = some (.ref (He.ga K ("ProbeError" : Str))) := He.glo_ok X G (c.t.d.fact 44 (f := .glo ("ProbeError" : Str)) rfl)
  exact ⟨⟨fd0,
    F0,
    He.glo_ok X G (c.t.d.fact 15 (f := .glo ("is_number" : Str)) rfl),
    fd1,
    F1,
    He.glo_ok X G (c.t.d.fact 16 (f := .glo ("is_lot" : Str)) rfl),
    fd2,
    F2,
    He.glo_ok X G (c.t.d.fact 17 (f := .glo ("need_count" : Str)) rfl),
    fd3,
    F3,
    He.glo_ok X G (c.t.d.fact 18 (f := .glo ("rising" : Str)) rfl),
    fd4,
    F4,
    He.glo_ok X G (c.t.d.fact 19 (f := .glo ("all_lots" : Str)) rfl),
    fd5,
    F5,
    He.glo_ok X G (c.t.d.fact 20 (f := .glo ("answer_of" : Str)) rfl),
    fd6,
    F6,
    He.glo_ok X G (c.t.d.fact 21 (f := .glo ("parted" : Str)) rfl),
    fd7,
    F7,
    He.glo_ok X G (c.t.d.fact 22 (f := .glo ("need_tree_counts" : Str)) rfl),
    fd8,
    F8,
    He.glo_ok X G (c.t.d.fact 23 (f := .glo ("walked" : Str)) rfl),
    fd9,
    F9,
    He.glo_ok X G (c.t.d.fact 24 (f := .glo ("read_tree" : Str)) rfl),
    fd10,
    F10,
    He.glo_ok X G (c.t.d.fact 25 (f := .glo ("_law_row" : Str)) rfl),
    fd11,
    F11,
    He.glo_ok X G (c.t.d.fact 26 (f := .glo ("_law_taken" : Str)) rfl),
    fd12,
    F12,
    He.glo_ok X G (c.t.d.fact 27 (f := .glo ("_law_lots" : Str)) rfl),
    fd13,
    F13,
    He.glo_ok X G (c.t.d.fact 28 (f := .glo ("_law_lot" : Str)) rfl),
    fd14,
    F14,
    He.glo_ok X G (c.t.d.fact 29 (f := .glo ("_law_drawn" : Str)) rfl),
    fd15,
    F15,
    He.glo_ok X G (c.t.d.fact 30 (f := .glo ("_law_alike" : Str)) rfl),
    fd16,
    F16,
    He.glo_ok X G (c.t.d.fact 31 (f := .glo ("_law_odd_tree" : Str)) rfl),
    fd17,
    F17,
    He.glo_ok X G (c.t.d.fact 32 (f := .glo ("law" : Str)) rfl),
    fd18,
    F18,
    He.glo_ok X G (c.t.d.fact 33 (f := .glo ("_law_word" : Str)) rfl),
    He.free_ok X G (c.t.d.fact 0 (f := .free ("ValueError" : Str)) rfl),
    He.free_ok X G (c.t.d.fact 1 (f := .free ("all" : Str)) rfl),
    He.free_ok X G (c.t.d.fact 2 (f := .free ("any" : Str)) rfl),
    He.free_ok X G (c.t.d.fact 3 (f := .free ("bool" : Str)) rfl),
    He.free_ok X G (c.t.d.fact 4 (f := .free ("int" : Str)) rfl),
    He.free_ok X G (c.t.d.fact 5 (f := .free ("isinstance" : Str)) rfl),
    He.free_ok X G (c.t.d.fact 6 (f := .free ("len" : Str)) rfl),
    He.free_ok X G (c.t.d.fact 7 (f := .free ("list" : Str)) rfl),
    He.free_ok X G (c.t.d.fact 8 (f := .free ("min" : Str)) rfl),
    He.free_ok X G (c.t.d.fact 9 (f := .free ("range" : Str)) rfl),
    He.free_ok X G (c.t.d.fact 10 (f := .free ("sorted" : Str)) rfl),
    He.free_ok X G (c.t.d.fact 11 (f := .free ("str" : Str)) rfl),
    He.free_ok X G (c.t.d.fact 12 (f := .free ("tuple" : Str)) rfl),
    He.int_ok X G (c.t.d.fact 13 (f := .int ("MOST_THINGS" : Str) 10) rfl),
    He.int_ok X G (c.t.d.fact 14 (f := .int ("MOST_BAD" : Str) 3) rfl),
    g_BadPlan,
    g_BadAnswers,
    g_BadLot,
    g_BadCount,
    g_BadChances,
    g_NoLot,
    g_BadTree,
    g_BadDeed,
    g_Halted,
    g_BadText,
    g_ProbeError,
    rz0B_ok (c := .badCount) g_BadCount e3,
    rz1_C (c := .badTree) (nm := ("way" : Str)) g_BadTree e4 rfl rfl g_ProbeError e2 FI_BadTree sci_BadTree (by kernel_rfl) rfl (fun _ => rfl) (fun _ _ _ _ _ _ us hl => match us, hl with | [_, _], _ => rfl),
    wfB_ok e1,
    e0⟩⟩
/-- what the law's own run says -/
def MainP : Prop := ∀ ns : List Int, ns.length ≤ 63 → (∀ z ∈ ns, Builtin.Int.intBits z ≤ 1048576) → ∃ S, callN Tt 40 false .law [.scr ns] [] = .ok (.v (.bool true)) S
theorem law_at {fa : Addr} (main : MainP) (X : K.In h) (G : h.Ns mainGlobals mg) (hfa : mg ("law" : Str) = some (.ref fa)) (c : He.SaysX faL fnL [] tfL exK w h K) : LamX.LawAtS PySem.Challenge.rw_probelots_k09_trees_read w K (L2.CX PySem.Challenge.rw_probelots_k09_trees_read.prog w) 120 63 "_law_script" mg fa h := by
  obtain ⟨D⟩ := facts_of X G c
  have e := hfa.symm.trans D.m_law
  cases e
  refine ⟨D.fd_law, tfL.map (He.cT K), spF K (caK K) false (callN Tt 40 false .law), ?_, ?_, ?_, ?_, ?_, ?_⟩
  · rintro p hp
    obtain ⟨q, hq, rfl⟩ := List.mem_map.mp hp
    exact c.empty q hq
  · rintro p hp
    obtain ⟨q, hq, rfl⟩ := List.mem_map.mp hp
    exact c.out q hq
  · rintro p hp
    obtain ⟨q, hq, rfl⟩ := List.mem_map.mp hp
    exact PySem.W.codeHd_of_K X (c.hd q hq)
  · exact fun s v => FunD.bindsA (ps := ["_law_script"]) D.F_law (fun _ _ _ _ _ _ us hl => match us, hl with | [_], _ => rfl) s [v] rfl
  · intro H a ns hl hb hT hS
    skip
    obtain ⟨S, e⟩ := main ns hl hb
    have rp : Rep K (fun _ => False) [] H (.ref a) (.scr ns) := by
      rcases hS with hS | hS
      · exact .scr hS (fun z => z)
      · exact .scrK (.inr hS)
    refine ⟨fun _ => False, [], [], [.scr ns], .cons rp .nil, ⟨rfl, List.nodup_nil, (fun _ h => by cases h), (fun _ h => h.elim), (fun _ _ _ h => by cases h), ?_, (fun _ h => by cases h), (fun _ h => by cases h)⟩, ?_⟩
    · rintro p hp
      obtain ⟨q, hq, rfl⟩ := List.mem_map.mp hp
      exact LamX.TabS.nil (hT (He.cT K q.1) (List.mem_map_of_mem (List.mem_map_of_mem hq)))
    · rw [e]
      intro v H' al' p r
      have r := OutB.out r
      cases r
      rfl
  · intro base KB GB hTB
    exact (allF D (hTB _ (List.mem_map_of_mem (f := He.cT K) (show ((("read_tree" : Str), none) : He.Defn) ∈ tfL by simp [tfL, tfQ]))) (hTB _ (List.mem_map_of_mem (f := He.cT K) (show ((("_law_lots" : Str), none) : He.Defn) ∈ tfL by simp [tfL, tfQ]))) (hTB _ (List.mem_map_of_mem (f := He.cT K) (show ((("law" : Str), none) : He.Defn) ∈ tfL by simp [tfL, tfQ]))) 40).law.ok
end
end Pk
end

section
set_option Elab.async false
set_option linter.all false
set_option maxRecDepth 100000
set_option maxHeartbeats 1000000
/-! Big steps for a run by tactic; what is refused. -/
namespace Pb
open PySem
theorem rx {α β : Type} {m : M α} {k : α → M β} {S S1 : List SO} {x : Exn} {res : R β} (h : m S = .exc x S1) (h2 : res = .exc x S1) : (m >>= k) S = res := by
  show M.bind m k S = res
  unfold M.bind
  rw [h, h2]
section
variable {L : Lk} {r r' r1 : Rho} {S S1 S2 S3 S4 : List SO} {a b c e : CE} {x y z o : Out} {d : D} {i j : Nat} {as : CA} {ds xs : List D} {res : R Fl} {ro : R Out} {ex : Exn}
noncomputable def andGo (L : Lk) (b : CE) (r : Rho) : Bool → M Out
  | true => (do let y ← ev L b r; let u ← asBool y.d; pure (.v (.bool u)))
  | false => pure (.v (.bool false))
noncomputable def orGo (L : Lk) (b : CE) (r : Rho) : Bool → M Out
  | false => (do let y ← ev L b r; let u ← asBool y.d; pure (.v (.bool u)))
  | true => pure (.v (.bool true))
noncomputable def iteGo (L : Lk) (a b : CE) (r : Rho) : Bool → M Out
  | true => (do let y ← ev L a r; pure (.v y.d))
  | false => (do let y ← ev L b r; pure (.v y.d))
noncomputable def chGo (L : Lk) (p : Cop) (c : CE) (r : Rho) (y : D) : Bool → M Out
  | true => (do let z ← ev L c r; let u ← ofOpt (cmpV p y z.d); pure (.v (.bool u)))
  | false => pure (.v (.bool false))
theorem x_and {u : Bool} (ha : ev L a r S = .ok (.v (.bool u)) S1) (h : andGo L b r u S1 = ro) : ev L (.and a b) r S = ro := rb ha (rb (a := u) rfl (by cases u <;> exact h))
theorem x_or {u : Bool} (ha : ev L a r S = .ok (.v (.bool u)) S1) (h : orGo L b r u S1 = ro) : ev L (.or a b) r S = ro := rb ha (rb (a := u) rfl (by cases u <;> exact h))
theorem x_ite {u : Bool} (ha : ev L c r S = .ok (.v (.bool u)) S1) (h : iteGo L a b r u S1 = ro) : ev L (.ite c a b) r S = ro := rb ha (rb (a := u) rfl (by cases u <;> exact h))
theorem x_chain {p q : Cop} {u : Bool} (ha : ev L a r S = .ok x S1) (hb : ev L b r S1 = .ok y S2) (h : cmpV p x.d y.d = some u) (h2 : chGo L q c r y.d u S2 = ro) : ev L (.chain p q a b c) r S = ro := rb ha (rb hb (rb (run_of h) (by cases u <;> exact h2)))
theorem and_f {t : Bool} (hu : t = false) : andGo L b r t S = .ok (.v (.bool false)) S := by subst hu; rfl
theorem and_t {u t : Bool} (hu : t = true) (h : ev L b r S = .ok (.v (.bool u)) S1) : andGo L b r t S = .ok (.v (.bool u)) S1 := by subst hu; exact rb h (rb (a := u) rfl rfl)
theorem or_t {t : Bool} (hu : t = true) : orGo L b r t S = .ok (.v (.bool true)) S := by subst hu; rfl
theorem or_f {u t : Bool} (hu : t = false) (h : ev L b r S = .ok (.v (.bool u)) S1) : orGo L b r t S = .ok (.v (.bool u)) S1 := by subst hu; exact rb h (rb (a := u) rfl rfl)
theorem ite_t {t : Bool} (hu : t = true) (h : ev L a r S = .ok y S1) : iteGo L a b r t S = .ok (.v y.d) S1 := by subst hu; exact rb h rfl
theorem ite_f {t : Bool} (hu : t = false) (h : ev L b r S = .ok y S1) : iteGo L a b r t S = .ok (.v y.d) S1 := by subst hu; exact rb h rfl
theorem ch_f {q : Cop} {w : D} {t : Bool} (hu : t = false) : chGo L q c r w t S = .ok (.v (.bool false)) S := by subst hu; rfl
theorem ch_t {q : Cop} {w : D} {u t : Bool} (hu : t = true) (h : ev L c r S = .ok z S1) (h2 : cmpV q w z.d = some u) : chGo L q c r w t S = .ok (.v (.bool u)) S1 := by subst hu; exact rb h (rb (run_of h2) rfl)
theorem e_rgT (h : evA L as r S = .ok ds S1) (h2 : rng3V ds = some xs) : ev L (.rgT as) r S = .ok (.v (.tuple xs)) S1 := rb h (rb (run_of h2) rfl)
theorem e_rgL (h : evA L as r S = .ok ds S1) (h2 : rng3V ds = some xs) : ev L (.rgL as) r S = .ok (.own xs) S1 := rb h (rb (run_of h2) rfl)
theorem e_word (h : ev L e r S = .ok o S1) : ev L (.word e) r S = .ok (.v (.tuple [.str Str.empty, o.d])) S1 := by
  show (match ev L e r S with | .ok o S' => R.ok (Out.v (.tuple [.str Str.empty, o.d])) S' | .exc x S' => if x.fs.length = exArity x.c then .ok (.v (wordV x)) S' else .bad | .bad => .bad) = _
  rw [h]
theorem e_wordx (h : ev L e r S = .exc ex S1) (h2 : ex.fs.length = exArity ex.c) : ev L (.word e) r S = .ok (.v (wordV ex)) S1 := by
  show (match ev L e r S with | .ok o S' => R.ok (Out.v (.tuple [.str Str.empty, o.d])) S' | .exc x S' => if x.fs.length = exArity x.c then .ok (.v (wordV x)) S' else .bad | .bad => .bad) = _
  rw [h]
  show (if _ then _ else _) = _
  rw [if_pos h2]
theorem e_lam {k : Nat} : ev L (.lamE k) r S = .ok (.v (.lam k (L.lo k))) S := rfl
theorem e_wordL {tbl : CA} {k : Nat} (h : ev L e r S = .ok (.v (.lam k (L.lo k))) S1) (h2 : evN L tbl k r S1 = .ok o S2) : ev L (.wordL e tbl) r S = .ok (.v (.tuple [.str Str.empty, o.d])) S2 := rb h (by
  classical
  show (if L.lo k = L.lo k then (match evN L tbl k r S1 with | .ok o S' => R.ok (Out.v (.tuple [.str Str.empty, o.d])) S' | .exc x S' => if x.fs.length = exArity x.c then .ok (.v (wordV x)) S' else .bad | .bad => .bad) else .bad) = _
  rw [if_pos rfl, h2])
theorem e_wordLx {tbl : CA} {k : Nat} (h : ev L e r S = .ok (.v (.lam k (L.lo k))) S1) (h2 : evN L tbl k r S1 = .exc ex S2) (h3 : ex.fs.length = exArity ex.c) : ev L (.wordL e tbl) r S = .ok (.v (wordV ex)) S2 := rb h (by
  classical
  show (if L.lo k = L.lo k then (match evN L tbl k r S1 with | .ok o S' => R.ok (Out.v (.tuple [.str Str.empty, o.d])) S' | .exc x S' => if x.fs.length = exArity x.c then .ok (.v (wordV x)) S' else .bad | .bad => .bad) else .bad) = _
  rw [if_pos rfl, h2]
  show (if _ then _ else _) = _
  rw [if_pos h3])
theorem e_callx {T : Tb} {m : Nat} {p : Bool} {f : Fn} (hn : as.nb = true) (h : evA ⟨p, callN T m p, callN T m true, T.lo⟩ as r S = .ok ds S1) (hc : callN T m p f ds S1 = .exc ex S2) : ev ⟨p, callN T m p, callN T m true, T.lo⟩ (.call f as) r S = .exc ex S2 := by
  show (if as.nb = true then (evA ⟨p, callN T m p, callN T m true, T.lo⟩ as r >>= fun ds => callN T m p f ds) else M.bad : M Out) S = _
  rw [if_pos hn]
  exact rb h hc
/-! statements -/
variable {st : CS} {bl bl2 : CB} {rs : R Fl}
noncomputable def cont (L : Lk) (bl : CB) : R Fl → R Fl
  | .ok (.nx r) S => exB L bl r S
  | .ok (.rt o) S => .ok (.rt o) S
  | .exc x S => .exc x S
  | .bad => .bad
theorem x_b (h : exS L st r S = rs) (h2 : cont L bl rs = res) : exB L (.cons st bl) r S = res := by
  refine Eq.trans ?_ h2
  show M.bind (exS L st r) _ S = _
  unfold M.bind
  rw [h]
  cases rs with
  | ok f S' => cases f <;> rfl
  | _ => rfl
theorem x_bX {bb : CB} (hb : bb = .cons st bl) (h : exS L st r S = rs) (h2 : cont L bl rs = res) : exB L bb r S = res := by subst hb; exact x_b h h2
theorem b_nilX {bb : CB} (hb : bb = .nil) : exB L bb r S = .ok (.nx r) S := by subst hb; rfl
theorem b_nilY {bb : CB} (hb : bb = .nil) (hr : r = r') : exB L bb r S = .ok (.nx r') S := by subst hb; subst hr; rfl
theorem gate_call {T : Tb} {m : Nat} {p : Bool} {f : Fn} {ro : R Out} (h : callN T m p f ds S = ro) : callN T m p f ds S = ro := h
theorem gate4 {T : Tb} {m : Nat} {p : Bool} {f f' : Fn} {ds' : List D} {ro : R Out} (h : callN T m p f' ds' S = ro) (hf : f = f') (hd : ds = ds') : callN T m p f ds S = ro := by subst hf; subst hd; exact h
theorem gate_cont (h : cont L bl rs = res) : cont L bl rs = res := h
theorem gate_word (h : ev L (.word e) r S = ro) : ev L (.word e) r S = ro := h
theorem gate_wordL {t : CA} (h : ev L (.wordL e t) r S = ro) : ev L (.wordL e t) r S = ro := h
theorem gate_for {f : D → Rho → M Fl} (h : forGo f xs r S = res) : forGo f xs r S = res := h
theorem gate_comp {f : D → M (Option D)} {rl : R (List D)} (h : compGo f xs S = rl) : compGo f xs S = rl := h
theorem co_nx (h : exB L bl r S = res) : cont L bl (.ok (.nx r) S) = res := h
theorem co_rt : cont L bl (.ok (.rt o) S) = .ok (.rt o) S := rfl
theorem co_ex : cont L bl (.exc ex S) = .exc ex S := rfl
noncomputable def pick (a b : CB) : Bool → CB
  | true => a
  | false => b
theorem x_sIte {u : Bool} (ha : ev L c r S = .ok (.v (.bool u)) S1) (h : exB L (pick bl bl2 u) r S1 = res) : exS L (.ite c bl bl2) r S = res := rb ha (rb (a := u) rfl (by cases u <;> exact h))
theorem pk_t (h : exB L bl r S = res) : exB L (pick bl bl2 true) r S = res := h
theorem pk_f (h : exB L bl2 r S = res) : exB L (pick bl bl2 false) r S = res := h
theorem s_raise {x : Ec} (hn : as.nb = true) (h : evA L as r S = .ok ds S1) (h2 : okX x ds = true) : exS L (.raise x as) r S = .exc ⟨x, ds⟩ S1 := by
  show (if as.nb = true then (evA L as r >>= fun ds => if okX x ds = true then M.exc ⟨x, ds⟩ else M.bad) else M.bad : M Fl) S = _
  rw [if_pos hn]
  exact rb h (by rw [if_pos h2]; rfl)
theorem s_dropx (h : ev L e r S = .exc ex S1) : exS L (.drop e) r S = .exc ex S1 := rx h rfl
theorem s_setx (h : ev L e r S = .exc ex S1) : exS L (.set i false e) r S = .exc ex S1 := rx h rfl
theorem s_retx (h : ev L e r S = .exc ex S1) : exS L (.ret e) r S = .exc ex S1 := rx h rfl
/-! defs -/
variable {fd : FD}
def fin : R Fl → R Out
  | .ok (.nx _) S => .ok (.v .non) S
  | .ok (.rt o) S => .ok o S
  | .exc x S => .exc x S
  | .bad => .bad
theorem x_f (hn : ds.length = fd.np) (h : exB L fd.body (start0 fd.ns ds) S = rs) (h2 : fin rs = ro) : runF L fd ds S = ro := by
  refine Eq.trans ?_ h2
  unfold runF
  rw [if_pos hn]
  show M.bind (exB L fd.body (start0 fd.ns ds)) _ S = _
  unfold M.bind
  rw [h]
  cases rs with
  | ok f S' => cases f <;> rfl
  | _ => rfl
end
/-! a loop that ends by an exception -/
theorem for_exc {f : D → Rho → M Fl} {xs ys : List D} {y : D} {r r1 : Rho} {S S1 S2 : List SO} {ex : Exn} (h : forGo f xs r S = .ok (.nx r1) S1) (h2 : f y r1 S1 = .exc ex S2) : forGo f (xs ++ y :: ys) r S = .exc ex S2 := by
  induction xs generalizing r S with
  | nil =>
    cases h
    exact rx h2 rfl
  | cons x xs ih =>
    change M.bind (f x r) _ S = _ at h
    unfold M.bind at h
    cases q : f x r S with
    | ok g S' =>
      rw [q] at h
      cases g with
      | nx r' => exact rb q (ih h)
      | rt o => cases h
    | exc x S' => rw [q] at h; cases h
    | bad => rw [q] at h; cases h
/-! comparisons that are so, or are not -/
variable {i j : Int}
theorem c_le_t (h : i ≤ j) : cmpV .le (.int i) (.int j) = some true := c_le.trans (by rw [decide_eq_true h])
theorem c_le_f (h : ¬ i ≤ j) : cmpV .le (.int i) (.int j) = some false := c_le.trans (by rw [decide_eq_false h])
theorem c_lt_t (h : i < j) : cmpV .lt (.int i) (.int j) = some true := c_lt.trans (by rw [decide_eq_true h])
theorem c_lt_f (h : ¬ i < j) : cmpV .lt (.int i) (.int j) = some false := c_lt.trans (by rw [decide_eq_false h])
theorem c_gt_t (h : j < i) : cmpV .gt (.int i) (.int j) = some true := c_gt.trans (by rw [decide_eq_true h])
theorem c_gt_f (h : ¬ j < i) : cmpV .gt (.int i) (.int j) = some false := c_gt.trans (by rw [decide_eq_false h])
theorem c_ge_t (h : j ≤ i) : cmpV .ge (.int i) (.int j) = some true := c_ge.trans (by rw [decide_eq_true h])
theorem c_ge_f (h : ¬ j ≤ i) : cmpV .ge (.int i) (.int j) = some false := c_ge.trans (by rw [decide_eq_false h])
theorem c_eqI_t (h : i = j) : cmpV .eq (.int i) (.int j) = some true := (c_eq (shI _ _) (shI _ _)).trans (by rw [eqvI, decide_eq_true h])
theorem c_eqI_f (h : ¬ i = j) : cmpV .eq (.int i) (.int j) = some false := (c_eq (shI _ _) (shI _ _)).trans (by rw [eqvI, decide_eq_false h])
theorem c_neI_t (h : ¬ i = j) : cmpV .ne (.int i) (.int j) = some true := (c_ne (shI _ _) (shI _ _)).trans (by rw [eqvI, decide_eq_false h]; rfl)
theorem c_neI_f (h : i = j) : cmpV .ne (.int i) (.int j) = some false := (c_ne (shI _ _) (shI _ _)).trans (by rw [eqvI, decide_eq_true h]; rfl)
theorem v_mod {i j : Int} (h : 0 < j) : binV .mod (.int i) (.int j) = some (.v (.int (i % j))) := if_pos h
theorem log_lt {m : Nat} (h : m < 2 ^ 62) : m.log2 < 9000 := by
  by_cases h0 : m = 0
  · subst h0; decide
  · exact Nat.lt_trans ((Nat.log2_lt h0).mpr h) (by decide)
theorem v_fdiv {i j : Int} (h : 0 < j) (h2 : j < 1073741824) : binV .fdiv (.int i) (.int j) = some (.v (.int (i / j))) := if_pos ⟨h, log_lt (by omega)⟩
theorem v_mulR {i j : Int} (h : smallI j = true) : binV .mul (.int i) (.int j) = some (.v (.int (i * j))) := if_pos (by rw [h]; simp)
theorem v_mulL {i j : Int} (h : smallI i = true) : binV .mul (.int i) (.int j) = some (.v (.int (i * j))) := if_pos (by rw [h]; simp)
theorem smI {i : Int} (h : -1000000 ≤ i) (h2 : i ≤ 1000000) : smallI i = true := by
  unfold smallI
  rw [decide_eq_true (by omega), decide_eq_true (by omega)]
  rfl
theorem v_mulM {i j : Int} (h : -1000000 ≤ j) (h2 : j ≤ 1000000) : binV .mul (.int i) (.int j) = some (.v (.int (i * j))) := v_mulR (smI h h2)
theorem rngN {n : Nat} (h : n ≤ 16777216) : rngV [.int (n : Int)] = some ((List.range n).map fun (k : Nat) => .int (0 + k)) := (rng1 (by omega) (by omega)).trans (by rw [Int.toNat_natCast])
theorem len_lot (l : List Int) : primV .len [lotD l] = some (.v (.int l.length)) := by
  show some (Out.v (.int ((l.map D.int).length : Nat))) = _
  rw [List.length_map]
theorem len_probes (ps : List (List Int)) : primV .len [probesD ps] = some (.v (.int ps.length)) := by
  show some (Out.v (.int ((ps.map lotD).length : Nat))) = _
  rw [List.length_map]
theorem szR {n : Nat} (h : Nat.ble n 1000000 = true) : n ≤ sizeLine := sz (Nat.le_of_ble_eq_true h)
end Pb
end

section
set_option Elab.async false
set_option linter.all false
set_option maxRecDepth 100000
set_option maxHeartbeats 1000000
namespace Pb
open PySem
variable {dl : FD} {lq : Nat → PySem.Addr → List (PySem.Addr × L2.HO) → Prop}
variable {n : Nat} {pu : Bool} {S : List SO}
theorem is_number_ok {i lo hi : Int} (h1 : lo ≤ i) (h2 : i ≤ hi) : callN (mkT dl lq) (n + 1) pu .is_number [.int i, .int lo, .int hi] S = .ok (.v (.bool true)) S := by
  rw [call_is_number]
  exact f_rt rfl (b_rt (s_ret (e_and_t (e_prim (ea1 (e_var rfl)) rfl) (e_and_t (e_not (u := false) (e_prim (ea1 (e_var rfl)) rfl)) (e_chain_t (e_var rfl) (e_var rfl) (c_le.trans (by rw [decide_eq_true h1])) (e_var rfl) (c_le.trans (by rw [decide_eq_true h2])))))))
theorem up_next {l : List Int} (h : l.Pairwise (· < ·)) {k : Nat} (hk : k + 1 < l.length) : l[k]'(by omega) < l[k + 1] := List.pairwise_iff_getElem.mp h k (k + 1) (by omega) hk (by omega)
theorem is_lot_ok {t : Int} {l : List Int} (hl : l.length ≤ 1000) (h : Rise t l) : callN (mkT dl lq) (n + 2) pu .is_lot [lotD l, .int t] S = .ok (.v (.bool true)) S := by
  rw [call_is_lot]
  refine f_rt rfl (b_nx (s_ite_f (e_or_f (e_not (u := true) (e_prim (ea1 (e_var rfl)) rfl)) (e_not (u := true) (e_prim (ea1 (e_comp (ei_seq (e_var rfl) rfl) (comp_map (enc := D.int) (g := fun _ => some (.bool true)) fun x hx => cf_all rfl (e_callT rfl (ea3 (e_var rfl) e_lit (e_bin (e_var rfl) e_lit rfl)) (is_number_ok (hi := t - 1) (h.bd x hx).1 (by have := (h.bd x hx).2; omega))) rfl))) ?_))) b_nil) (b_rt (s_ret ?_)))
  · rw [show primV .all = allV from rfl]
    show allV [.list (l.filterMap fun x => some (D.bool ((fun _ => true) x)))] = _
    rw [all_map]
    simp
  · refine e_prim (ea1 (e_comp (ei_rng (ea1 (e_bin (e_prim (ea1 (e_var rfl)) rfl) e_lit rfl)) (rng1 ?_ ?_)) (comp_map (g := fun k => some (.bool true)) fun k hk => ?_))) ?_
    · show -(2 ^ 62) ≤ ((l.map D.int).length : Int) - 1
      omega
    · show ((l.map D.int).length : Int) - 1 ≤ 16777216
      rw [List.length_map]
      omega
    · have hk : k < (((l.map D.int).length : Int) - 1).toNat := List.mem_range.mp hk
      rw [List.length_map] at hk
      have hk1 : k + 1 < l.length := by omega
      refine cf_all rfl (e_cmp (e_idx (e_var rfl) (e_var rfl) (d := .int (l[k]'(by omega))) ?_) (e_idx (e_var rfl) (e_bin (e_var rfl) e_lit rfl) (d := .int (l[k + 1]'hk1)) ?_) (c_lt.trans (by rw [decide_eq_true (up_next h.up hk1)]))) rfl
      · show L2.atI (l.map D.int) (0 + (k : Int)) = _
        rw [atI_zadd]
        simp [show k < l.length by omega]
      · show L2.atI (l.map D.int) (0 + (k : Int) + 1) = _
        rw [atI_zadd1]
        simp [hk1]
    · show allV [.list ((List.range _).filterMap fun x => some (D.bool ((fun _ => true) x)))] = _
      rw [all_map]
      simp
theorem c_len2 : cmpV .ne (.int (2 : Nat)) (.int 2) = some false := rfl
theorem need_plan_ok {t : Int} {ps : List (List Int)} (h1 : 1 ≤ t) (h2 : t ≤ 10) (hn : ps.length ≤ 16) (hp : ∀ p ∈ ps, Rise t p ∧ p ≠ [] ∧ p.length ≤ 1000) : callN (mkT dl lq) (n + 3) pu .need_plan [planD t ps] S = .ok (.v .non) S := by
  rw [call_need_plan]
  obtain ⟨r', S', hf, hP⟩ := for_inv (f := fF (lk (mkT dl lq) (n + 2) true) (.tup (.cons (.var 3) (.cons (.var 4) .nil))) (.cons (.ite (.or (.cmp .eq (.var 3) (.lit (.int 16))) (.or (.not (.call .is_lot (.cons (.var 4) (.cons (.var 1) .nil)))) (.cmp .eq (.var 4) (.tup .nil)))) (.cons (.raise .badPlan (.cons (.var 3) .nil)) .nil) .nil) .nil))
    (items := enumV (ps.map lotD)) (r := [.v (planD t ps), .v (.int t), .v (probesD ps), .un, .un]) (S := S) (fun _ r S' => S' = S ∧ ∃ a b, r = [.v (planD t ps), .v (.int t), .v (probesD ps), a, b]) (fun k x r S' hx hP => by
    obtain ⟨rfl, a, b, rfl⟩ := hP
    obtain ⟨d, rfl, hd⟩ := enumV_get hx
    rw [List.getElem?_map] at hd
    cases q : ps[k]? with
    | none => rw [q] at hd; cases hd
    | some p =>
      rw [q] at hd
      cases hd
      have hm : p ∈ ps := List.mem_of_getElem? q
      obtain ⟨hr, hne, hl⟩ := hp p hm
      have hk : k < ps.length := (List.getElem?_eq_some_iff.mp q).1
      refine ⟨_, _, ff_in rfl (b_nx (s_ite_f (e_or_f (e_cmp (e_var rfl) e_lit (u := false) ?_) (e_or_f (e_not (u := true) (e_callT rfl (ea2 (e_var rfl) (e_var rfl)) (is_lot_ok hl hr))) (e_cmp (e_var rfl) (e_tup rfl ea_nil (sz (by simp))) (u := false) ?_))) b_nil) b_nil), rfl, _, _, rfl⟩
      · show cmpV .eq (.int (k : Nat)) (.int 16) = _
        rw [c_eq (shI _ _) (shI _ _), eqvI]
        congr 1
        simp
        omega
      · show cmpV .eq (lotD p) (lotD []) = _
        rw [c_eq (shL _ _) (shL _ _), eqvL]
        simp [hne]) ⟨rfl, _, _, rfl⟩
  obtain ⟨rfl, _⟩ := hP
  exact f_nx rfl (b_nx (s_ite_f (e_or_f (e_not (u := true) (e_prim (ea1 (e_var rfl)) rfl)) (e_or_f (e_cmp (e_prim (ea1 (e_var rfl)) rfl) e_lit c_len2) (e_not (u := true) (e_callT rfl (ea3 (e_idx (e_var rfl) e_lit rfl) e_lit e_lit) (is_number_ok h1 h2))))) b_nil) (b_nx (s_unp (e_var rfl) rfl) (b_nx (s_ite_f (e_not (u := true) (e_prim (ea1 (e_var rfl)) rfl)) b_nil) (b_nx (s_for (ei_enum (e_var rfl) rfl) hf) b_nil))))
theorem need_count_ok {i lo hi : Int} (h1 : lo ≤ i) (h2 : i ≤ hi) : callN (mkT dl lq) (n + 2) pu .need_count [.int i, .int lo, .int hi] S = .ok (.v .non) S := by
  rw [call_need_count]
  exact f_nx rfl (b_nx (s_ite_f (e_not (u := true) (e_callT rfl (ea3 (e_var rfl) (e_var rfl) (e_var rfl)) (is_number_ok h1 h2))) b_nil) b_nil)
/-- answers that may come: 0, 1, none -/
def OkO (o : Option Int) : Prop := ∀ i, o = some i → 0 ≤ i ∧ i ≤ 1
theorem len_told (os : List (Option Int)) : primV .len [toldD os] = some (.v (.int os.length)) := by
  show some (Out.v (.int ((os.map oD).length : Nat))) = _
  rw [List.length_map]
theorem idx_told {os : List (Option Int)} {k : Nat} {o : Option Int} (h : os[k]? = some o) : idxV S (toldD os) (.int (0 + (k : Nat))) = some (oD o) := by
  show L2.atI (os.map oD) (0 + (k : Int)) = _
  rw [atI_zadd, List.getElem?_map, h]
  rfl
theorem need_answers_ok {t : Int} {ps : List (List Int)} {os : List (Option Int)} (hn : ps.length ≤ 1000) (hl : os.length = ps.length) (ho : ∀ o ∈ os, OkO o) : callN (mkT dl lq) (n + 2) pu .need_answers [planD t ps, toldD os] S = .ok (.v .non) S := by
  rw [call_need_answers]
  obtain ⟨r', S', hf, hP⟩ := for_inv (f := fF (lk (mkT dl lq) (n + 1) true) (.var 2) (.cons (.ite (.or (.cmp .ge (.var 2) (.prim .len (.cons (.var 1) .nil))) (.and (.notN (.idx (.var 1) (.var 2))) (.not (.call .is_number (.cons (.idx (.var 1) (.var 2)) (.cons (.lit (.int 0)) (.cons (.lit (.int 1)) .nil))))))) (.cons (.raise .badAnswers (.cons (.var 2) .nil)) .nil) .nil) .nil))
    (items := (List.range ps.length).map fun (k : Nat) => .int (0 + k)) (r := [.v (planD t ps), .v (toldD os), .un]) (S := S) (fun _ r S' => S' = S ∧ ∃ a, r = [.v (planD t ps), .v (toldD os), a]) (fun k x r S' hx hP => by
    obtain ⟨rfl, a, rfl⟩ := hP
    rw [List.getElem?_map] at hx
    cases q : (List.range ps.length)[k]? with
    | none => rw [q] at hx; cases hx
    | some k' =>
      rw [q] at hx
      cases hx
      obtain ⟨hk, e⟩ := List.getElem?_eq_some_iff.mp q
      rw [List.getElem_range] at e
      subst e
      rw [List.length_range] at hk
      have hko : k < os.length := by omega
      have hq : os[k]? = some os[k] := by simp [hko]
      have hge : cmpV .ge (.int (0 + (k : Int))) (.int (os.length : Nat)) = some false := by
        rw [c_ge]
        congr 1
        simp
        omega
      refine ⟨_, _, ff_in rfl (b_nx (s_ite_f (e_or_f (e_cmp (e_var rfl) (e_prim (ea1 (e_var rfl)) (len_told os)) hge) ?_) b_nil) b_nil), rfl, _, rfl⟩
      cases z : os[k] with
      | none => exact e_and_f (e_notN (e_idx (e_var rfl) (e_var rfl) (by rw [z] at hq; exact idx_told hq)))
      | some i =>
        rw [z] at hq
        obtain ⟨a1, a2⟩ := ho _ (List.mem_of_getElem? hq) i rfl
        exact e_and_t (e_notN (e_idx (e_var rfl) (e_var rfl) (idx_told hq))) (e_not (u := true) (e_callT rfl (ea3 (e_idx (e_var rfl) (e_var rfl) (idx_told hq)) e_lit e_lit) (is_number_ok a1 a2)))) ⟨rfl, _, rfl⟩
  obtain ⟨rfl, a, rfl⟩ := hP
  refine f_nx rfl (b_nx (s_ite_f (e_not (u := true) (e_prim (ea1 (e_var rfl)) rfl)) b_nil) (b_nx (s_for (ei_rng (ea1 (e_prim (ea1 (e_idx (e_var rfl) e_lit rfl)) (len_probes ps))) ((rng1 (j := (ps.length : Nat)) (by omega) (by omega)).trans (by simp))) hf) (b_nx (s_ite_f (e_cmp (e_prim (ea1 (e_var rfl)) (len_told os)) (e_prim (ea1 (e_idx (e_var rfl) e_lit rfl)) (len_probes ps)) (c_gt.trans ?_)) b_nil) b_nil)))
  rw [hl]
  simp
/-! answers -/
def ans1 (lot p : List Int) : Int := if p.any (fun x => decide (x ∈ lot)) = true then 1 else 0
def ansL (ps : List (List Int)) (lot : List Int) : List Int := ps.map (ans1 lot)
theorem answer_of_ok (p lot : List Int) : callN (mkT dl lq) (n + 1) pu .answer_of [lotD p, lotD lot] S = .ok (.v (.int (ans1 lot p))) S := by
  rw [call_answer_of]
  refine f_rt rfl (b_rt (s_ret (e_prim (ea1 (e_prim (ea1 (e_comp (ei_seq (e_var rfl) rfl) (comp_map (enc := D.int) (g := fun x => some (D.bool (decide (x ∈ lot)))) fun x hx => cf_all rfl (e_cmp (e_var rfl) (e_var rfl) (c_mem x lot)) rfl))) (any_map _ _))) rfl)))
theorem fm_map {α β : Type} (f : α → β) (l : List α) : (l.filterMap fun x => some (f x)) = l.map f := by
  induction l with
  | nil => rfl
  | cons x l ih => simp [List.filterMap_cons, ih]
theorem answers_of_ok (t : Int) (ps : List (List Int)) (lot : List Int) : callN (mkT dl lq) (n + 2) pu .answers_of [planD t ps, lotD lot] S = .ok (.v (lotD (ansL ps lot))) S := by
  rw [call_answers_of]
  refine f_rt rfl (b_rt (s_ret (e_prim (ea1 (e_comp (ei_seq (e_idx (e_var rfl) e_lit rfl) rfl) (comp_map (enc := lotD) (g := fun p => some (D.int (ans1 lot p))) fun p hp => cf_all rfl (e_callT rfl (ea2 (e_var rfl) (e_var rfl)) (answer_of_ok p lot)) rfl))) ?_)))
  show some (Out.v (.tuple (ps.filterMap fun p => some (D.int (ans1 lot p))))) = _
  rw [fm_map]
  show _ = some (Out.v (.tuple ((ps.map (ans1 lot)).map D.int)))
  rw [List.map_map]
  rfl
/-! slips -/
def slipB : Option Int → Int → Bool
  | none, _ => false
  | some j, i => decide (j ≠ i)
def slipN (os : List (Option Int)) (due : List Int) : Nat := ((os.zip due).filter fun p => slipB p.1 p.2).length
theorem fm_len {α β : Type} (b : α → Bool) (f : α → β) (l : List α) : (l.filterMap fun x => if b x = true then some (f x) else none).length = (l.filter b).length := by
  induction l with
  | nil => rfl
  | cons x l ih => cases h : b x <;> simp [List.filterMap_cons, List.filter_cons, h, ih]
theorem fm_filter {α β : Type} (b : α → Bool) (f : α → β) (l : List α) : (l.filterMap fun x => if b x = true then some (f x) else none) = (l.filter b).map f := by
  induction l with
  | nil => rfl
  | cons x l ih => cases h : b x <;> simp [List.filterMap_cons, List.filter_cons, h, ih]
theorem zip_enc (os : List (Option Int)) (due : List Int) : zipV (os.map oD) (due.map .int) = (os.zip due).map fun p => .tuple [oD p.1, .int p.2] := by
  unfold zipV
  rw [List.zip_map, List.map_map]
  rfl
theorem slip_cond {L : Lk} {r : Rho} {i j : Nat} {o : Option Int} {k : Int} {a b a2 : CE} (ha : ev L a r S = .ok (.v (oD o)) S) (ha2 : ev L a2 r S = .ok (.v (oD o)) S) (hb : ev L b r S = .ok (.v (.int k)) S) : ev L (.and (.notN a) (.cmp .ne a2 b)) r S = .ok (.v (.bool (slipB o k))) S := by
  cases o with
  | none => exact e_and_f (e_notN ha)
  | some m =>
    refine e_and_t (e_notN ha) (e_cmp ha2 hb ?_)
    show cmpV .ne (.int m) (.int k) = _
    rw [c_ne (shI _ _) (shI _ _), eqvI]
    show some (!decide (m = k)) = some (decide (m ≠ k))
    by_cases h : m = k <;> simp [h]
theorem slips_of_ok (os : List (Option Int)) (due : List Int) : callN (mkT dl lq) (n + 1) pu .slips_of [toldD os, lotD due] S = .ok (.v (.int (slipN os due))) S := by
  rw [call_slips_of]
  refine f_rt rfl (b_rt (s_ret (e_prim (ea1 (e_comp (ei_zip (e_var rfl) (e_var rfl) (show zip2V (toldD os) (lotD due) = some _ by
    show some (zipV (os.map oD) (due.map .int)) = _
    rw [zip_enc])) (comp_map (g := fun p : Option Int × Int => if slipB p.1 p.2 = true then some (oD p.1) else none) fun p hp => cf_if (u := slipB p.1 p.2) rfl (slip_cond (i := 0) (j := 0) (e_var rfl) (e_var rfl) (e_var rfl)) (fun _ => e_var rfl) rfl))) ?_)))
  show some (Out.v (.int (List.length _ : Nat))) = _
  rw [fm_len]
  rfl
theorem zip_range {α β : Type} {xs : List α} {ys : List β} {n : Nat} (a : α) (c : β) (h1 : xs.length = n) (h2 : ys.length = n) : xs.zip ys = (List.range n).map fun k => (xs.getD k a, ys.getD k c) := by
  apply List.ext_getElem
  · simp [h1, h2]
  · intro i p q
    have : i < n := by simpa using q
    simp [List.getElem_zip, show i < xs.length by omega, show i < ys.length by omega]
theorem idx_lot {l : List Int} {k : Nat} {i : Int} (h : l[k]? = some i) : idxV S (lotD l) (.int (0 + (k : Nat))) = some (.int i) := by
  show L2.atI (l.map D.int) (0 + (k : Int)) = _
  rw [atI_zadd, List.getElem?_map, h]
  rfl
theorem l_slips_ok (os : List (Option Int)) (due : List Int) (hl : os.length = due.length) (hd : due.length ≤ 1000) : callN (mkT dl lq) (n + 1) pu .l_slips [toldD os, lotD due] S = .ok (.v (.int (slipN os due))) S := by
  rw [call__law_slips]
  refine f_rt rfl (b_rt (s_ret (e_prim (ea1 (e_comp (ei_rng (ea1 (e_prim (ea1 (e_var rfl)) (len_lot due))) ((rng1 (j := (due.length : Nat)) (by omega) (by omega)).trans (by rw [Int.toNat_natCast])))
    (comp_map (g := fun k : Nat => if slipB (os.getD k none) (due.getD k 0) = true then some (D.int (0 + (k : Int))) else none) fun k hk => ?_))) ?_)))
  · have hk := List.mem_range.mp hk
    have q1 : os[k]? = some (os.getD k none) := by simp [show k < os.length by omega]
    have q2 : due[k]? = some (due.getD k 0) := by simp [hk]
    exact cf_if (u := slipB (os.getD k none) (due.getD k 0)) rfl (slip_cond (i := 0) (j := 0) (e_idx (e_var rfl) (e_var rfl) (idx_told q1)) (e_idx (e_var rfl) (e_var rfl) (idx_told q1)) (e_idx (e_var rfl) (e_var rfl) (idx_lot q2))) (fun _ => e_var rfl) rfl
  · show some (Out.v (.int (List.length _ : Nat))) = _
    rw [fm_len]
    unfold slipN
    rw [zip_range none 0 hl rfl, List.filter_map, List.length_map]
    rfl
theorem ne_any {α : Type} [DecidableEq α] (f : α → Bool) : ∀ p : List α, (!decide (p.filter f = [])) = p.any f
  | [] => rfl
  | x :: p => by
    have ih := ne_any f p
    cases h : f x
    · rw [List.filter_cons, h, if_neg (by simp), ih, List.any_cons, h]
      rfl
    · rw [List.filter_cons, h, if_pos rfl, List.any_cons, h]
      simp
theorem l_answers_ok (t : Int) (ps : List (List Int)) (lot : List Int) : callN (mkT dl lq) (n + 1) pu .l_answers [planD t ps, lotD lot] S = .ok (.v (lotD (ansL ps lot))) S := by
  rw [call__law_answers]
  refine f_rt rfl (b_rt (s_ret (e_prim (ea1 (e_comp (ei_seq (e_idx (e_var rfl) e_lit rfl) rfl) (comp_map (enc := lotD) (g := fun p => some (D.int (ans1 lot p))) fun p hp => cf_all rfl (e_prim (ea1 (e_cmp (u := p.any (fun x => decide (x ∈ lot))) (e_comp (ei_seq (e_var rfl) rfl) (comp_map (enc := D.int) (g := fun x => if decide (x ∈ lot) = true then some (D.int x) else none) fun x hx => cf_if rfl (e_cmp (e_var rfl) (e_var rfl) (c_mem x lot)) (fun _ => e_var rfl) rfl)) (e_lst rfl ea_nil (sz (by simp))) ?_)) rfl) rfl))) ?_)))
  · show cmpV .ne (.list (p.filterMap fun x => if decide (x ∈ lot) = true then some (D.int x) else none)) (.list []) = _
    rw [fm_filter, c_ne (by
      show ((p.filter fun x => decide (x ∈ lot)).map D.int).all (D.sh 59) = true
      simp [shI]) rfl]
    show some (!D.eqvs ((p.filter fun x => decide (x ∈ lot)).map D.int) ([].map D.int)) = _
    rw [eqvsI]
    rw [ne_any]
  · show some (Out.v (.tuple (ps.filterMap fun p => some (D.int (ans1 lot p))))) = _
    rw [fm_map]
    show _ = some (Out.v (.tuple ((ps.map (ans1 lot)).map D.int)))
    rw [List.map_map]
    rfl
/-! all lots -/
def riseL (t : Nat) : Nat → Nat → List (List Int)
  | 0, _ => [[]]
  | m + 1, lo => (List.range (t - lo)).flatMap fun i => (riseL t m (lo + i + 1)).map fun r => ((lo + i : Nat) : Int) :: r
def lotsL (t m : Nat) : List (List Int) := (List.range (min t m + 1)).flatMap fun k => riseL t k 0
theorem all_lots_ok {t m : Nat} (ht : t ≤ 7) (hm : m ≤ 3) : callN (mkT dl lq) (n + 6) pu .all_lots [.int t, .int m] S = .ok (.own ((lotsL t m).map lotD)) S := by
  rw [call_all_lots]
  have h1 : t = 0 ∨ t = 1 ∨ t = 2 ∨ t = 3 ∨ t = 4 ∨ t = 5 ∨ t = 6 ∨ t = 7 := by omega
  have h2 : m = 0 ∨ m = 1 ∨ m = 2 ∨ m = 3 := by omega
  rcases h1 with rfl | rfl | rfl | rfl | rfl | rfl | rfl | rfl <;> rcases h2 with rfl | rfl | rfl | rfl <;> kernel_rfl
theorem l_lots_ok {t m : Nat} (ht : t ≤ 7) (hm : m ≤ 3) : callN (mkT dl lq) (n + 1) pu .l_lots [.int t, .int m] S = .ok (.own ((lotsL t m).map lotD)) S := by
  rw [call__law_lots]
  have h1 : t = 0 ∨ t = 1 ∨ t = 2 ∨ t = 3 ∨ t = 4 ∨ t = 5 ∨ t = 6 ∨ t = 7 := by omega
  have h2 : m = 0 ∨ m = 1 ∨ m = 2 ∨ m = 3 := by omega
  rcases h1 with rfl | rfl | rfl | rfl | rfl | rfl | rfl | rfl <;> rcases h2 with rfl | rfl | rfl | rfl <;> kernel_rfl
/-! what may be so -/
def byL (ps : List (List Int)) (os : List (Option Int)) (far : Int) (L : List (List Int)) : List (List Int) := L.filter fun lot => decide ((slipN os (ansL ps lot) : Int) ≤ far)
def pairD (ps : List (List Int)) (os : List (Option Int)) (lot : List Int) : D := .tuple [lotD lot, .int (slipN os (ansL ps lot))]
structure Good (t : Nat) (ps : List (List Int)) (os : List (Option Int)) : Prop where
  t1 : 1 ≤ t
  t7 : t ≤ 7
  pn : ps.length ≤ 8
  pp : ∀ p ∈ ps, Rise t p ∧ p ≠ [] ∧ p.length ≤ 1000
  ol : os.length = ps.length
  oo : ∀ o ∈ os, OkO o
variable {t m : Nat} {ps : List (List Int)} {os : List (Option Int)} {far : Int}
theorem comp_mapE {α : Type} {f : D → M (Option D)} {enc : α → D} {g : α → Option D} {l : List α} {ds : List D} (h : ∀ x ∈ l, f (enc x) S = .ok (g x) S) (e : l.filterMap g = ds) : compGo f (l.map enc) S = .ok ds S := by rw [← e]; exact comp_map h
theorem lots_by_ok (g : Good t ps os) (hm : m ≤ 3) : callN (mkT dl lq) (n + 7) pu .lots_by [planD t ps, toldD os, .int m, .int far] S = .ok (.own ((byL ps os far (lotsL t m)).map lotD)) S := by
  rw [call_lots_by]
  exact f_rt rfl (b_rt (s_ret (e_comp (ei_seq (e_callT rfl (ea2 (e_idx (e_var rfl) e_lit rfl) (e_var rfl)) (all_lots_ok g.t7 hm)) rfl)
    (comp_mapE (enc := lotD) (g := fun lot => if decide ((slipN os (ansL ps lot) : Int) ≤ far) = true then some (lotD lot) else none) (fun lot hlot => cf_if rfl (e_cmp (e_callT rfl (ea2 (e_var rfl) (e_callT rfl (ea2 (e_var rfl) (e_var rfl)) (answers_of_ok t ps lot))) (slips_of_ok os _)) (e_var rfl) c_le) (fun _ => e_var rfl) rfl) (fm_filter _ _ _)))))
theorem need_all_ok (g : Good t ps os) (hm : m ≤ 3) (h0 : 0 ≤ far) (h1 : far ≤ 16) : callN (mkT dl lq) (n + 4) pu .need_all [planD t ps, toldD os, .int m, .int far] S = .ok (.v .non) S := by
  rw [call_need_all]
  exact f_nx rfl (b_nx (s_drop (e_callT rfl (ea1 (e_var rfl)) (need_plan_ok (by have := g.t1; omega) (by have := g.t7; omega) (by have := g.pn; omega) g.pp)))
    (b_nx (s_drop (e_callT rfl (ea2 (e_var rfl) (e_var rfl)) (need_answers_ok (by have := g.pn; omega) g.ol g.oo)))
    (b_nx (s_drop (e_callT rfl (ea3 (e_var rfl) e_lit e_lit) (need_count_ok (by omega) (by omega))))
    (b_nx (s_drop (e_callT rfl (ea3 (e_var rfl) e_lit e_lit) (need_count_ok h0 h1))) b_nil))))
theorem ea4 {L : Lk} {r : Rho} {S S1 S2 S3 S4 : List SO} {a b c d : CE} {x y z u : Out} (h : ev L a r S = .ok x S1) (h2 : ev L b r S1 = .ok y S2) (h3 : ev L c r S2 = .ok z S3) (h4 : ev L d r S3 = .ok u S4) : evA L (.cons a (.cons b (.cons c (.cons d .nil)))) r S = .ok [x.d, y.d, z.d, u.d] S4 := ea_cons h (ea3 h2 h3 h4)
theorem could_ok (g : Good t ps os) (hm : m ≤ 3) (h0 : 0 ≤ far) (h1 : far ≤ 16) : callN (mkT dl lq) (n + 8) pu .could [planD t ps, toldD os, .int m, .int far] S = .ok (.own ((byL ps os far (lotsL t m)).map (pairD ps os))) S := by
  rw [call_could]
  refine f_rt rfl (b_nx (s_drop (e_callT rfl (ea4 (e_var rfl) (e_var rfl) (e_var rfl) (e_var rfl)) (need_all_ok g hm h0 h1))) (b_rt (s_ret ?_)))
  exact e_comp (ei_seq (e_callT rfl (ea4 (e_var rfl) (e_var rfl) (e_var rfl) (e_var rfl)) (lots_by_ok (far := far) g hm)) rfl)
    (comp_mapE (enc := lotD) (g := fun lot => some (pairD ps os lot)) (fun lot hlot => cf_all rfl (e_tup rfl (ea2 (e_var rfl) (e_callT rfl (ea2 (e_var rfl) (e_callT rfl (ea2 (e_var rfl) (e_var rfl)) (answers_of_ok t ps lot))) (slips_of_ok os _))) (sz (by simp))) rfl) (fm_map _ _))
/-- surely bad, surely good -/
def badL (t : Nat) (some_ : List (List Int)) : List Int := ((List.range t).filter fun (x : Nat) => some_.all fun lot => decide (((0 : Int) + (x : Int)) ∈ lot)).map fun (x : Nat) => 0 + (x : Int)
def goodL (t : Nat) (some_ : List (List Int)) : List Int := ((List.range t).filter fun (x : Nat) => !some_.any fun lot => decide (((0 : Int) + (x : Int)) ∈ lot)).map fun (x : Nat) => 0 + (x : Int)
def sureD (t : Nat) (some_ : List (List Int)) : D := if some_ = [] then .non else .tuple [.list ((badL t some_).map .int), .list ((goodL t some_).map .int)]
theorem shLs (l : List (List Int)) : D.sh 60 (.list (l.map lotD)) = true := by
  show (l.map lotD).all (D.sh 59) = true
  simp [shL]
theorem eqvsL : ∀ xs ys : List (List Int), D.eqvs (xs.map lotD) (ys.map lotD) = decide (xs = ys)
  | [], [] => rfl
  | [], _ :: _ => rfl
  | _ :: _, [] => rfl
  | x :: xs, y :: ys => by
    show (D.eqv (lotD x) (lotD y) && D.eqvs (xs.map lotD) (ys.map lotD)) = _
    rw [eqvL, eqvsL]
    by_cases h1 : x = y <;> by_cases h2 : xs = ys <;> simp [h1, h2]
theorem sure_ok (g : Good t ps os) (hm : m ≤ 3) (h0 : 0 ≤ far) (h1 : far ≤ 16) : callN (mkT dl lq) (n + 8) pu .sure [planD t ps, toldD os, .int m, .int far] S = .ok (.v (sureD t (byL ps os far (lotsL t m)))) S := by
  rw [call_sure]
  refine f_rt rfl (b_nx (s_drop (e_callT rfl (ea4 (e_var rfl) (e_var rfl) (e_var rfl) (e_var rfl)) (need_all_ok g hm h0 h1))) (b_nx (s_set (e_callT rfl (ea4 (e_var rfl) (e_var rfl) (e_var rfl) (e_var rfl)) (lots_by_ok (far := far) g hm))) ?_))
  generalize byL ps os far (lotsL t m) = L
  have ht := g.t7
  have hr : rngV [(Out.v (.int (t : Nat))).d] = some ((List.range t).map fun (k : Nat) => .int (0 + k)) := (rng1 (j := (t : Nat)) (by omega) (by omega)).trans (by rw [Int.toNat_natCast])
  by_cases hL : L = []
  · subst hL
    refine b_rt (s_ite_t (e_cmp (e_var rfl) (e_lst rfl ea_nil (sz (by simp))) rfl) (b_rt (s_ret e_lit)))
  · rw [show sureD t L = .tuple [.list ((badL t L).map .int), .list ((goodL t L).map .int)] from if_neg hL]
    unfold badL goodL
    rw [List.map_map, List.map_map]
    refine b_nx (s_ite_f (e_cmp (u := false) (e_var rfl) (e_lst rfl ea_nil (sz (by simp))) ?_) b_nil) (b_nx (s_set (e_comp (ei_rng (ea1 (e_idx (e_var rfl) e_lit rfl)) hr)
      (comp_mapE (g := fun x : Nat => if (L.all fun lot => decide (((0 : Int) + (x : Nat)) ∈ lot)) = true then some (D.int (0 + (x : Int))) else none) (fun x hx => cf_if rfl (e_prim (ea1 (e_comp (ei_seq (e_var rfl) rfl) (comp_map (enc := lotD) (g := fun lot => some (D.bool (decide (((0 : Int) + (x : Nat)) ∈ lot)))) fun lot hl => cf_all rfl (e_cmp (e_var rfl) (e_var rfl) (c_mem _ _)) rfl))) (all_map _ _)) (fun _ => e_var rfl) rfl) (fm_filter _ _ _))))
      (b_rt (s_ret (e_tup rfl (ea2 (e_var rfl) (e_comp (ei_rng (ea1 (e_idx (e_var rfl) e_lit rfl)) hr)
      (comp_mapE (g := fun x : Nat => if (!L.any fun lot => decide (((0 : Int) + (x : Nat)) ∈ lot)) = true then some (D.int (0 + (x : Int))) else none) (fun x hx => cf_if rfl (e_not (e_prim (p := .any) (o := .v (.bool (L.any fun lot => decide (((0 : Int) + (x : Nat)) ∈ lot)))) (ea1 (e_comp (ei_seq (e_var rfl) rfl) (comp_map (enc := lotD) (g := fun lot => some (D.bool (decide (((0 : Int) + (x : Nat)) ∈ lot)))) fun lot hl => cf_all rfl (e_cmp (e_var rfl) (e_var rfl) (c_mem _ _)) rfl))) (any_map (fun lot : List Int => decide (((0 : Int) + (x : Nat)) ∈ lot)) L))) (fun _ => e_var rfl) rfl) (fm_filter _ _ _)))) (sz (by simp))))))
    show cmpV .eq (.list (L.map lotD)) (.list (([] : List (List Int)).map lotD)) = _
    rw [c_eq (shLs _) (shLs _)]
    show some (D.eqvs (L.map lotD) (([] : List (List Int)).map lotD)) = _
    rw [eqvsL]
    simp [hL]
end Pb
end

section
set_option Elab.async false
set_option linter.all false
set_option maxRecDepth 100000
set_option maxHeartbeats 1000000
namespace Pb
open PySem
variable {dl : FD} {lq : Nat → PySem.Addr → List (PySem.Addr × L2.HO) → Prop}
variable {n : Nat} {pu : Bool} {S : List SO}
/-! the row of drawn numbers -/
def RowOk (ns : List Int) (S : List SO) : Prop := ∃ (k : Nat) (big mix : Int), S = [.lst [.scr ns, .int k, .int big, .int mix]]
theorem l_row_ok (ns : List Int) : ∃ S, callN (mkT dl lq) (n + 1) false .l_row [.scr ns] [] = .ok (.v (.loc 0)) S ∧ RowOk ns S := by
  rw [call__law_row]
  obtain ⟨r', S', hf, rfl, m, a, rfl⟩ := for_inv (f := fF (lk (mkT dl lq) n false) (.var 2) (.cons (.set 1 false (.bin .mod (.bin .add (.bin .add (.bin .mul (.var 1) (.lit (.int 48271))) (.var 2)) (.lit (.int 11))) (.lit (.int 2147483647)))) .nil))
    (items := ns.map .int) (r := [.v (.scr ns), .v (.int 7), .un]) (S := []) (fun _ r S' => S' = [] ∧ ∃ m a, r = [.v (.scr ns), .v (.int m), a]) (fun k x r S' hx hP => by
    obtain ⟨rfl, m, a, rfl⟩ := hP
    rw [List.getElem?_map] at hx
    cases q : ns[k]? with
    | none => rw [q] at hx; cases hx
    | some i =>
      rw [q] at hx
      cases hx
      exact ⟨_, _, ff_in rfl (b_nx (s_set (e_bin (e_bin (e_bin (e_bin (e_var rfl) e_lit (v_mulR rfl)) (e_var rfl) rfl) e_lit rfl) e_lit (v_mod (by omega)))) b_nil), rfl, _, _, rfl⟩) ⟨rfl, _, _, rfl⟩
  exact ⟨_, f_rt rfl (b_nx (s_set e_lit) (b_nx (s_for (ei_seq (e_var rfl) rfl) hf) (b_rt (s_retL rfl rfl (ea4 (e_var rfl) e_lit e_lit (e_var rfl)) (sz (by simp)))))), 0, 0, m, rfl⟩
theorem l_taken_ok {ns : List Int} {many : Int} (h1 : 1 ≤ many) (h2 : many < 1073741824) (hS : RowOk ns S) : ∃ v S', callN (mkT dl lq) (n + 1) false .l_taken [.loc 0, .int many] S = .ok (.v (.int v)) S' ∧ RowOk ns S' ∧ 0 ≤ v ∧ v < many := by
  obtain ⟨k, big, mix, rfl⟩ := hS
  rw [call__law_taken]
  by_cases hb : 0 < big
  · exact ⟨big % many, _, f_rt rfl (b_rt (s_ite_t (e_cmp (e_idx (e_var rfl) e_lit rfl) e_lit (c_gt.trans (by rw [decide_eq_true hb])))
      (b_nx (s_set (e_bin (e_idx (e_var rfl) e_lit rfl) (e_var rfl) (v_mod (by omega))))
      (b_nx (s_setI rfl (e_bin (e_idx (e_var rfl) e_lit rfl) (e_var rfl) (v_fdiv (by omega) h2)) (e_var rfl) e_lit rfl) (b_rt (s_ret (e_var rfl))))))), ⟨k, _, mix, rfl⟩, Int.emod_nonneg _ (by omega), Int.emod_lt_of_pos _ (by omega)⟩
  · have hb' : cmpV .gt (.int big) (.int 0) = some false := c_gt.trans (by rw [decide_eq_false hb])
    by_cases hk : k < ns.length
    · have hk' : cmpV .lt (.int (k : Int)) (.int (ns.length : Nat)) = some true := c_lt.trans (by rw [decide_eq_true (by omega)])
      have hc : idxV [.lst [.scr ns, .int k, .int big, .int mix]] (.scr ns) (.int k) = some (.int ns[k]) := by
        show (L2.atI ns (k : Int)).map D.int = _
        rw [atI_nat]
        simp [hk]
      by_cases hg : (10 : Int) ^ (18 : Int).toNat ≤ ns[k]
      · refine ⟨ns[k] % many, _, f_rt rfl (b_nx (s_ite_f (e_cmp (e_idx (e_var rfl) e_lit rfl) e_lit hb') b_nil) (b_rt (s_ite_t (e_cmp (e_idx (e_var rfl) e_lit rfl) (e_prim (ea1 (e_idx (e_var rfl) e_lit rfl)) rfl) hk')
          (b_nx (s_set (e_idx (e_idx (e_var rfl) e_lit rfl) (e_idx (e_var rfl) e_lit rfl) hc))
          (b_nx (s_setI rfl (e_bin (e_idx (e_var rfl) e_lit rfl) e_lit rfl) (e_var rfl) e_lit rfl)
          (b_nx (s_ite_t (e_cmp (e_var rfl) (e_bin e_lit e_lit rfl) (c_ge.trans (by rw [decide_eq_true hg]))) (b_nx (s_setI rfl (e_bin (e_var rfl) (e_var rfl) (v_fdiv (by omega) h2)) (e_var rfl) e_lit rfl) b_nil))
          (b_rt (s_ret (e_bin (e_var rfl) (e_var rfl) (v_mod (by omega))))))))))), ⟨k + 1, _, mix, rfl⟩, Int.emod_nonneg _ (by omega), Int.emod_lt_of_pos _ (by omega)⟩
      · refine ⟨ns[k] % many, _, f_rt rfl (b_nx (s_ite_f (e_cmp (e_idx (e_var rfl) e_lit rfl) e_lit hb') b_nil) (b_rt (s_ite_t (e_cmp (e_idx (e_var rfl) e_lit rfl) (e_prim (ea1 (e_idx (e_var rfl) e_lit rfl)) rfl) hk')
          (b_nx (s_set (e_idx (e_idx (e_var rfl) e_lit rfl) (e_idx (e_var rfl) e_lit rfl) hc))
          (b_nx (s_setI rfl (e_bin (e_idx (e_var rfl) e_lit rfl) e_lit rfl) (e_var rfl) e_lit rfl)
          (b_nx (s_ite_f (e_cmp (e_var rfl) (e_bin e_lit e_lit rfl) (c_ge.trans (by rw [decide_eq_false hg]))) b_nil)
          (b_rt (s_ret (e_bin (e_var rfl) (e_var rfl) (v_mod (by omega))))))))))), ⟨k + 1, big, mix, rfl⟩, Int.emod_nonneg _ (by omega), Int.emod_lt_of_pos _ (by omega)⟩
    · have hk' : cmpV .lt (.int (k : Int)) (.int (ns.length : Nat)) = some false := c_lt.trans (by rw [decide_eq_false (by omega)])
      exact ⟨_, _, f_rt rfl (b_nx (s_ite_f (e_cmp (e_idx (e_var rfl) e_lit rfl) e_lit hb') b_nil) (b_nx (s_ite_f (e_cmp (e_idx (e_var rfl) e_lit rfl) (e_prim (ea1 (e_idx (e_var rfl) e_lit rfl)) rfl) hk') b_nil)
        (b_nx (s_setI rfl (e_bin (e_bin (e_bin (e_idx (e_var rfl) e_lit rfl) e_lit (v_mulR rfl)) e_lit rfl) e_lit (v_mod (by omega))) (e_var rfl) e_lit rfl)
        (b_rt (s_ret (e_bin (e_bin (e_idx (e_var rfl) e_lit rfl) e_lit (v_fdiv (by omega) (by omega))) (e_var rfl) (v_mod (by omega)))))))), ⟨k, big, _, rfl⟩, Int.emod_nonneg _ (by omega), Int.emod_lt_of_pos _ (by omega)⟩
end Pb
end

section
set_option Elab.async false
set_option linter.all false
set_option maxRecDepth 100000
set_option maxHeartbeats 1000000
namespace Pb
open PySem
variable {dl : FD} {lq : Nat → PySem.Addr → List (PySem.Addr × L2.HO) → Prop}
variable {n : Nat} {pu : Bool} {S : List SO} {ns : List Int}
/-- a comprehension that takes some of its items, its tests change the store -/
theorem comp_sel {α : Type} {f : D → M (Option D)} {enc enc' : α → D} (R : List SO → Prop) {l : List α} (h : ∀ x ∈ l, ∀ S, R S → ∃ (b : Bool) (S' : List SO), f (enc x) S = .ok (if b = true then some (enc' x) else none) S' ∧ R S') : ∀ S, R S → ∃ (sel : List α) (S' : List SO), compGo f (l.map enc) S = .ok (sel.map enc') S' ∧ R S' ∧ sel.Sublist l := by
  induction l with
  | nil => exact fun S hS => ⟨[], S, rfl, hS, List.Sublist.slnil⟩
  | cons x l ih =>
    intro S hS
    obtain ⟨b, S1, h1, R1⟩ := h x (by simp) S hS
    obtain ⟨sel, S2, h2, R2, hs⟩ := ih (fun y hy => h y (by simp [hy])) S1 R1
    have go : ∀ o : Option D, f (enc x) S = .ok o S1 → compGo f ((x :: l).map enc) S = .ok (match o with | some d => d :: sel.map enc' | none => sel.map enc') S2 := fun o ho => by
      refine (rb ho (rb h2 ?_) : (f (enc x) >>= fun r => compGo f (l.map enc) >>= fun rs => pure (match r with | some d => d :: rs | none => rs)) S = _)
      cases o <;> rfl
    cases b with
    | true => exact ⟨x :: sel, S2, go _ h1, R2, hs.cons₂ x⟩
    | false => exact ⟨sel, S2, go _ h1, R2, hs.cons x⟩
theorem rise_sub {t : Nat} {sel : List Nat} (h : sel.Sublist (List.range t)) : Rise t (sel.map fun (k : Nat) => 0 + (k : Int)) where
  up := by
    have := (List.pairwise_lt_range (n := t)).sublist h
    rw [List.pairwise_map]
    exact this.imp (fun {a b} h => by omega)
  bd := fun x hx => by
    obtain ⟨k, hk, rfl⟩ := List.mem_map.mp hx
    have := List.mem_range.mp (h.subset hk)
    omega
theorem l_lot_ok {t : Nat} (ht : t ≤ 10) (hS : RowOk ns S) : ∃ lot S', callN (mkT dl lq) (n + 2) false .l_lot [.loc 0, .int t] S = .ok (.v (lotD lot)) S' ∧ RowOk ns S' ∧ Rise t lot ∧ lot.length ≤ t := by
  rw [call__law_lot]
  obtain ⟨sel, S', hc, hR, hsub⟩ := comp_sel (f := cF (lk (mkT dl lq) (n + 1) false) (.var 2) (.var 2) (.cons (.cmp .lt (.call .l_taken (.cons (.var 0) (.cons (.lit (.int 5)) .nil))) (.lit (.int 2))) .nil) [2] (start0 3 [.loc 0, .int t])) (enc := fun (k : Nat) => .int (0 + k)) (enc' := fun (k : Nat) => .int (0 + k)) (RowOk ns) (l := List.range t) (fun k hk S hS => by
    obtain ⟨v, S', h1, h2, h3, h4⟩ := l_taken_ok (n := n) (many := 5) (by omega) (by omega) hS
    refine ⟨decide (v < 2), S', ?_, h2⟩
    by_cases hv : v < 2
    · rw [decide_eq_true hv]
      exact cf_yes rfl (e_cmp (e_callT rfl (ea2 (e_var rfl) e_lit) h1) e_lit (c_lt.trans (by rw [decide_eq_true hv]))) (e_var rfl) rfl
    · rw [decide_eq_false hv]
      exact cf_no rfl (e_cmp (e_callT rfl (ea2 (e_var rfl) e_lit) h1) e_lit (c_lt.trans (by rw [decide_eq_false hv])))) S hS
  refine ⟨sel.map fun (k : Nat) => 0 + (k : Int), S', f_rt rfl (b_rt (s_ret (e_prim (ea1 (e_comp (ei_rng (ea1 (e_var rfl)) ((rng1 (j := (t : Nat)) (by omega) (by omega)).trans (by rw [Int.toNat_natCast]))) hc)) ?_))), hR, rise_sub hsub, ?_⟩
  · show some (Out.v (.tuple _)) = some (Out.v (.tuple _))
    rw [List.map_map]
    rfl
  · rw [List.length_map]
    have := hsub.length_le
    rwa [List.length_range] at this
/-- probes that may be drawn -/
def OkP (t : Nat) (p : List Int) : Prop := Rise t p ∧ p ≠ [] ∧ p.length ≤ 1000
theorem rise_one {t : Nat} {v : Int} (h1 : 0 ≤ v) (h2 : v < t) : OkP t [v] := ⟨⟨by simp, fun x hx => by rw [List.mem_singleton.mp hx]; exact ⟨h1, h2⟩⟩, by simp, by simp⟩
theorem add_probe (ps : List (List Int)) (p : List Int) (h : ps.length ≤ 1000) : binV .add (probesD ps) (.tuple [lotD p]) = some (.v (probesD (ps ++ [p]))) := by
  show (if (ps.map lotD).length + [lotD p].length ≤ sizeLine then _ else none) = _
  rw [if_pos (sz (by simp; omega))]
  show some (Out.v (.tuple (ps.map lotD ++ [lotD p]))) = some (Out.v (.tuple ((ps ++ [p]).map lotD)))
  rw [List.map_append]
  rfl
theorem l_plan_ok {t1 p1 : Nat} (ht : 1 ≤ t1) (ht2 : t1 ≤ 10) (hp : p1 ≤ 100) (hS : RowOk ns S) : ∃ t ps S', callN (mkT dl lq) (n + 3) false .l_plan [.loc 0, .int t1, .int p1] S = .ok (.v (planD (t : Nat) ps)) S' ∧ RowOk ns S' ∧ 1 ≤ t ∧ t ≤ t1 ∧ ps.length ≤ p1 ∧ ∀ p ∈ ps, OkP t p := by
  rw [call__law_plan]
  obtain ⟨v, S1, h1, R1, v0, v1⟩ := l_taken_ok (n := n + 1) (many := t1) (by omega) (by omega) hS
  obtain ⟨t, rfl⟩ : ∃ t : Nat, v = t := ⟨v.toNat, by omega⟩
  obtain ⟨u, S2, h2, R2, u0, u1⟩ := l_taken_ok (n := n + 1) (many := (p1 : Int) + 1) (by omega) (by omega) R1
  obtain ⟨m, rfl⟩ : ∃ m : Nat, u = m := ⟨u.toNat, by omega⟩
  have e1 : (1 : Int) + (t : Int) = ((t + 1 : Nat) : Int) := by omega
  obtain ⟨r', S', hf, R3, ps, a, b, rfl, hl, hps⟩ := for_inv (f := fF (lk (mkT dl lq) (n + 2) false) (.var 5) (.cons (.set 6 false (.call .l_lot (.cons (.var 0) (.cons (.var 3) .nil)))) (.cons (.set 4 false (.bin .add (.var 4) (.tup (.cons (.ite (.cmp .ne (.var 6) (.tup .nil)) (.var 6) (.tup (.cons (.call .l_taken (.cons (.var 0) (.cons (.var 3) .nil))) .nil))) .nil)))) .nil)))
    (items := (List.range m).map fun (k : Nat) => .int (0 + k)) (r := [.v (.loc 0), .v (.int t1), .v (.int p1), .v (.int (t + 1 : Nat)), .v (probesD []), .un, .un]) (S := S2) (fun k r S' => RowOk ns S' ∧ ∃ ps a b, r = [.v (.loc 0), .v (.int t1), .v (.int p1), .v (.int (t + 1 : Nat)), .v (probesD ps), a, b] ∧ ps.length = k ∧ ∀ p ∈ ps, OkP (t + 1) p) (fun k x r S' hx hP => by
    obtain ⟨R, ps, a, b, rfl, hl, hps⟩ := hP
    have hk : k < m := by
      have := (List.getElem?_eq_some_iff.mp hx).1
      simpa using this
    obtain ⟨lot, S3, h3, R3, hr, hll⟩ := l_lot_ok (n := n) (t := t + 1) (by omega) R
    by_cases he : lot = []
    · subst he
      obtain ⟨w, S4, h4, R4, w0, w1⟩ := l_taken_ok (n := n + 1) (many := ((t + 1 : Nat) : Int)) (by omega) (by omega) R3
      refine ⟨_, S4, ff_in rfl (b_nx (s_set (e_callT rfl (ea2 (e_var rfl) (e_var rfl)) h3)) (b_nx (s_set (e_bin (e_var rfl) (e_tup rfl (ea1 (e_ite_f (e_cmp (e_var rfl) (e_tup rfl ea_nil (sz (by simp))) (u := false) rfl) (e_tup rfl (ea1 (e_callT rfl (ea2 (e_var rfl) (e_var rfl)) h4)) (sz (by simp))))) (sz (by simp))) (add_probe ps [w] (by omega)))) b_nil)), R4, ps ++ [[w]], _, _, rfl, by simp [hl], fun p hp => ?_⟩
      rcases List.mem_append.mp hp with h | h
      · exact hps p h
      · rw [List.mem_singleton.mp h]
        exact rise_one w0 w1
    · refine ⟨_, S3, ff_in rfl (b_nx (s_set (e_callT rfl (ea2 (e_var rfl) (e_var rfl)) h3)) (b_nx (s_set (e_bin (e_var rfl) (e_tup rfl (ea1 (e_ite_t (e_cmp (e_var rfl) (e_tup rfl ea_nil (sz (by simp))) (u := true) ?_) (e_var rfl))) (sz (by simp))) (add_probe ps lot (by omega)))) b_nil)), R3, ps ++ [lot], _, _, rfl, by simp [hl], fun p hp => ?_⟩
      · show cmpV .ne (lotD lot) (lotD []) = _
        rw [c_ne (shL _ _) (shL _ _), eqvL]
        simp [he]
      · rcases List.mem_append.mp hp with h | h
        · exact hps p h
        · rw [List.mem_singleton.mp h]
          exact ⟨hr, he, by omega⟩) ⟨R2, [], _, _, rfl, rfl, by simp⟩
  refine ⟨t + 1, ps, S', f_rt rfl (b_nx (s_par2 rfl (e_bin e_lit (e_callT rfl (ea2 (e_var rfl) (e_var rfl)) h1) (o := .v (.int (t + 1 : Nat))) (by rw [← e1]; rfl)) (e_tup rfl ea_nil (sz (by simp))))
    (b_nx (s_for (ei_rng (ea1 (e_callT rfl (ea2 (e_var rfl) (e_bin (e_var rfl) e_lit rfl)) h2)) ((rng1 (j := (m : Nat)) (by omega) (by omega)).trans (by rw [Int.toNat_natCast]))) hf)
    (b_rt (s_ret (e_tup rfl (ea2 (e_var rfl) (e_var rfl)) (sz (by simp))))))), R3, by omega, by omega, ?_, hps⟩
  rw [hl]
  simp
  omega
end Pb
end

section
set_option Elab.async false
set_option linter.all false
set_option maxRecDepth 100000
set_option maxHeartbeats 1000000
namespace Pb
open PySem
variable {dl : FD} {lq : Nat → PySem.Addr → List (PySem.Addr × L2.HO) → Prop}
variable {n : Nat} {pu : Bool} {S : List SO} {ns : List Int}
theorem ans_01 (ps : List (List Int)) (lot : List Int) : ∀ i ∈ ansL ps lot, i = 0 ∨ i = 1 := fun i hi => by
  obtain ⟨p, _, rfl⟩ := List.mem_map.mp hi
  unfold ans1
  split
  · exact .inr rfl
  · exact .inl rfl
theorem add_told (os : List (Option Int)) (o : Option Int) (h : os.length ≤ 1000) : binV .add (toldD os) (.tuple [oD o]) = some (.v (toldD (os ++ [o]))) := by
  show (if (os.map oD).length + [oD o].length ≤ sizeLine then _ else none) = _
  rw [if_pos (sz (by simp; omega))]
  show some (Out.v (.tuple (os.map oD ++ [oD o]))) = some (Out.v (.tuple ((os ++ [o]).map oD)))
  rw [List.map_append]
  rfl
theorem l_said_ok {t : Nat} {ps : List (List Int)} (ht : t ≤ 10) (hp : ps.length ≤ 1000) (hS : RowOk ns S) : ∃ os S', callN (mkT dl lq) (n + 3) false .l_said [.loc 0, planD t ps] S = .ok (.v (toldD os)) S' ∧ RowOk ns S' ∧ os.length = ps.length ∧ ∀ o ∈ os, OkO o := by
  rw [call__law_said]
  obtain ⟨lot, S1, h1, R1, _, _⟩ := l_lot_ok (n := n) ht hS
  generalize hc : ((lot.drop (HT.sIx lot.length 0 none)).take (HT.sIx lot.length lot.length (some 3) - HT.sIx lot.length 0 none)) = lot'
  have hcut : slcV (Out.d (.v (lotD lot))) none (some 3) = some (.v (lotD lot')) := by
    show some (Out.v (.tuple (cutD (lot.map D.int) none (some 3)))) = some (Out.v (.tuple (lot'.map D.int)))
    unfold cutD
    rw [← hc, List.length_map, List.map_take, List.map_drop]
  obtain ⟨r', S', hf, R3, os, a, rfl, hl, ho⟩ := for_inv (f := fF (lk (mkT dl lq) (n + 2) false) (.var 4) (.cons (.set 3 false (.bin .add (.var 3) (.tup (.cons (.idx (.lst (.cons (.var 4) (.cons (.var 4) (.cons (.var 4) (.cons (.var 4) (.cons (.bin .sub (.lit (.int 1)) (.var 4)) (.cons (.lit .non) (.cons (.lit .non) .nil)))))))) (.call .l_taken (.cons (.var 0) (.cons (.lit (.int 7)) .nil)))) .nil)))) .nil))
    (items := (ansL ps lot').map .int) (r := [.v (.loc 0), .v (planD t ps), .v (lotD (ansL ps lot')), .v (toldD []), .un]) (S := S1) (fun k r S' => RowOk ns S' ∧ ∃ os a, r = [.v (.loc 0), .v (planD t ps), .v (lotD (ansL ps lot')), .v (toldD os), a] ∧ os.length = k ∧ ∀ o ∈ os, OkO o) (fun k x r S' hx hP => by
    obtain ⟨R, os, a, rfl, hl, ho⟩ := hP
    have hk : k < ps.length := by
      have := (List.getElem?_eq_some_iff.mp hx).1
      simpa [ansL] using this
    rw [List.getElem?_map] at hx
    cases q : (ansL ps lot')[k]? with
    | none => rw [q] at hx; cases hx
    | some i =>
      rw [q] at hx
      cases hx
      have hi := ans_01 ps lot' i (List.mem_of_getElem? q)
      obtain ⟨v, S2, h2, R2, v0, v1⟩ := l_taken_ok (n := n + 1) (many := 7) (by omega) (by omega) R
      obtain ⟨o, hoo, hidx⟩ : ∃ o, OkO o ∧ idxV S2 (.list [.int i, .int i, .int i, .int i, .int (1 - i), .non, .non]) (.int v) = some (oD o) := by
        have hv : v = 0 ∨ v = 1 ∨ v = 2 ∨ v = 3 ∨ v = 4 ∨ v = 5 ∨ v = 6 := by omega
        have o1 : OkO (some i) := fun j e => by cases e; omega
        have o2 : OkO (some (1 - i)) := fun j e => by cases e; omega
        have o3 : OkO none := fun j e => by cases e
        rcases hv with rfl | rfl | rfl | rfl | rfl | rfl | rfl
        · exact ⟨_, o1, rfl⟩
        · exact ⟨_, o1, rfl⟩
        · exact ⟨_, o1, rfl⟩
        · exact ⟨_, o1, rfl⟩
        · exact ⟨_, o2, rfl⟩
        · exact ⟨_, o3, rfl⟩
        · exact ⟨_, o3, rfl⟩
      refine ⟨_, S2, ff_in rfl (b_nx (s_set (e_bin (e_var rfl) (e_tup rfl (ea1 (e_idx (e_lst rfl (ea_cons (e_var rfl) (ea_cons (e_var rfl) (ea_cons (e_var rfl) (ea_cons (e_var rfl) (ea_cons (e_bin e_lit (e_var rfl) rfl) (ea_cons e_lit (ea1 e_lit))))))) (sz (by simp))) (e_callT rfl (ea2 (e_var rfl) e_lit) h2) hidx)) (sz (by simp))) (add_told os o (by omega)))) b_nil), R2, os ++ [o], _, rfl, by simp [hl], fun z hz => ?_⟩
      rcases List.mem_append.mp hz with h | h
      · exact ho z h
      · rw [List.mem_singleton.mp h]
        exact hoo) ⟨R1, [], _, rfl, rfl, by simp⟩
  refine ⟨os, S', f_rt rfl (b_nx (s_par2 rfl (e_callT rfl (ea2 (e_var rfl) (e_slc (e_callT rfl (ea2 (e_var rfl) (e_idx (e_var rfl) e_lit rfl)) h1) eo_none (eo_some e_lit) hcut)) (l_answers_ok t ps lot')) (e_tup rfl ea_nil (sz (by simp))))
    (b_nx (s_for (ei_seq (e_var rfl) rfl) hf) (b_rt (s_ret (e_var rfl))))), R3, ?_, ho⟩
  rw [hl]
  simp [ansL]
end Pb
end

section
set_option Elab.async false
set_option linter.all false
set_option maxRecDepth 100000
set_option maxHeartbeats 1000000
namespace Pb
open PySem
variable {dl : FD} {lq : Nat → PySem.Addr → List (PySem.Addr × L2.HO) → Prop}
variable {n : Nat} {pu : Bool} {S : List SO} {ns : List Int}
theorem e_isNu {L : Lk} {r : Rho} {S S1 : List SO} {a : CE} {x : Out} {u : Bool} (ha : ev L a r S = .ok x S1) (hv : (match x.d with | .non => true | _ => false) = u) : ev L (.isN a) r S = .ok (.v (.bool u)) S1 := by rw [← hv]; exact e_isN ha
/-! the same, of the same kinds -/
def alkB : Nat → D → Bool
  | _, .non => true
  | _, .int _ => true
  | _, .bool _ => true
  | _, .str x => PyData.strOk x
  | n + 1, .list xs => decide (xs.length ≤ 1000000) && xs.all (alkB n)
  | n + 1, .tuple xs => decide (xs.length ≤ 1000000) && xs.all (alkB n)
  | _, _ => false
theorem c_eqB (b c : Bool) : cmpV .eq (.bool b) (.bool c) = some (b == c) := rfl
theorem c_neB (b c : Bool) : cmpV .ne (.bool b) (.bool c) = some (!(b == c)) := rfl
theorem fm_none {α β : Type} (l : List α) : (l.filterMap fun _ => (none : Option β)) = [] := by
  induction l with
  | nil => rfl
  | cons x l ih => rw [List.filterMap_cons]; exact ih
theorem alike_seq {m : Nat} {d : D} {xs : List D} {b : Bool} (h2 : primV (.is2 .tuple .list) [d] = some (.v (.bool true))) (ht : primV (.isI .tuple) [d] = some (.v (.bool b))) (hl : primV .len [d] = some (.v (.int xs.length))) (hi : ∀ (k : Nat) x S, xs[k]? = some x → idxV S d (.int (0 + k)) = some x)
    (hz : xs.length ≤ 1000000) (ih : ∀ x ∈ xs, ∀ S, callN (mkT dl lq) m true .l_alike [x, x] S = .ok (.v (.bool true)) S) : callN (mkT dl lq) (m + 1) pu .l_alike [d, d] S = .ok (.v (.bool true)) S := by
  rw [call__law_alike]
  refine f_rt rfl (b_rt (s_ite_t (e_prim (ea1 (e_var rfl)) h2) (b_nx (s_ite_f (e_or_f (e_cmp (u := false) (e_prim (ea1 (e_var rfl)) ht) (e_prim (ea1 (e_var rfl)) ht) ((c_neB b b).trans (by simp))) (e_not (u := true) (e_prim (ea1 (e_var rfl)) h2))) b_nil)
    (b_nx (s_ite_f (e_cmp (u := false) (e_prim (ea1 (e_var rfl)) hl) (e_prim (ea1 (e_var rfl)) hl) ?_) b_nil)
    (b_rt (s_ret (e_cmp (e_comp (ei_rng (ea1 (e_prim (ea1 (e_var rfl)) hl)) ((rng1 (j := (xs.length : Nat)) (by omega) (by omega)).trans (by rw [Int.toNat_natCast])))
      (comp_mapE (g := fun _ => none) (fun k hk => ?_) (fm_none _))) (e_lst rfl ea_nil (sz (by simp))) rfl)))))))
  · show cmpV .ne (.int (xs.length : Nat)) (.int (xs.length : Nat)) = _
    rw [c_ne (shI _ _) (shI _ _), eqvI]
    simp
  · have hk : k < xs.length := List.mem_range.mp hk
    have q : xs[k]? = some xs[k] := by simp [hk]
    exact cf_no rfl (e_not (u := true) (e_callT rfl (ea2 (e_idx (e_var rfl) (e_var rfl) (hi k _ _ q)) (e_idx (e_var rfl) (e_var rfl) (hi k _ _ q))) (ih _ (List.mem_of_getElem? q) S)))
theorem eqvS (x : Str) : D.eqv (.str x) (.str x) = true := by
  show (x == x) = true
  simp
def flatB : D → Bool
  | .list _ => false
  | .tuple _ => false
  | d => alkB 0 d
theorem alike_flat {d : D} (h : flatB d = true) (n : Nat) (pu : Bool) (S : List SO) : callN (mkT dl lq) (n + 1) pu .l_alike [d, d] S = .ok (.v (.bool true)) S := by
  rw [call__law_alike]
  have q : ∀ d : D, alkB 0 d = true → D.sh 60 d = true ∧ D.eqv d d = true := fun d h => by
    cases d with
    | non => exact ⟨rfl, rfl⟩
    | int i => exact ⟨rfl, by rw [eqvI]; simp⟩
    | bool b => exact ⟨rfl, by cases b <;> rfl⟩
    | str x => exact ⟨h, eqvS x⟩
    | _ => cases h
  cases d with
  | non => exact f_rt rfl (b_nx (s_ite_f (e_prim (ea1 (e_var rfl)) rfl) b_nil) (b_rt (s_ite_t (e_or_t (e_isNu (e_var rfl) rfl)) (b_rt (s_ret (e_and_t (e_isNu (e_var rfl) rfl) (e_isNu (e_var rfl) rfl)))))))
  | int i =>
    obtain ⟨q1, q2⟩ := q _ h
    exact f_rt rfl (b_nx (s_ite_f (e_prim (ea1 (e_var rfl)) rfl) b_nil) (b_nx (s_ite_f (e_or_f (e_isNu (e_var rfl) rfl) (e_isNu (e_var rfl) rfl)) b_nil) (b_nx (s_set (e_cmp (e_prim (ea1 (e_var rfl)) rfl) (e_prim (ea1 (e_var rfl)) rfl) (c_eqB false false))) (b_rt (s_ret (e_and_t (e_var rfl) (e_and_t (e_cmp (e_prim (ea1 (e_var rfl)) rfl) (e_prim (ea1 (e_var rfl)) rfl) (c_eqB false false)) (e_cmp (u := true) (e_var rfl) (e_var rfl) ((c_eq q1 q1).trans (by rw [q2]))))))))))
  | bool b =>
    obtain ⟨q1, q2⟩ := q _ h
    exact f_rt rfl (b_nx (s_ite_f (e_prim (ea1 (e_var rfl)) rfl) b_nil) (b_nx (s_ite_f (e_or_f (e_isNu (e_var rfl) rfl) (e_isNu (e_var rfl) rfl)) b_nil) (b_nx (s_set (e_cmp (e_prim (ea1 (e_var rfl)) rfl) (e_prim (ea1 (e_var rfl)) rfl) (c_eqB false false))) (b_rt (s_ret (e_and_t (e_var rfl) (e_and_t (e_cmp (e_prim (ea1 (e_var rfl)) rfl) (e_prim (ea1 (e_var rfl)) rfl) (c_eqB true true)) (e_cmp (u := true) (e_var rfl) (e_var rfl) ((c_eq q1 q1).trans (by rw [q2]))))))))))
  | str x =>
    obtain ⟨q1, q2⟩ := q _ h
    exact f_rt rfl (b_nx (s_ite_f (e_prim (ea1 (e_var rfl)) rfl) b_nil) (b_nx (s_ite_f (e_or_f (e_isNu (e_var rfl) rfl) (e_isNu (e_var rfl) rfl)) b_nil) (b_nx (s_set (e_cmp (e_prim (ea1 (e_var rfl)) rfl) (e_prim (ea1 (e_var rfl)) rfl) (c_eqB true true))) (b_rt (s_ret (e_and_t (e_var rfl) (e_and_t (e_cmp (e_prim (ea1 (e_var rfl)) rfl) (e_prim (ea1 (e_var rfl)) rfl) (c_eqB false false)) (e_cmp (u := true) (e_var rfl) (e_var rfl) ((c_eq q1 q1).trans (by rw [q2]))))))))))
  | _ => cases h
theorem alk0 {k : Nat} {d : D} (h : alkB k d = true) (hl : ∀ xs, d ≠ .list xs) (ht : ∀ xs, d ≠ .tuple xs) : flatB d = true := by
  cases d with
  | list xs => exact absurd rfl (hl xs)
  | tuple xs => exact absurd rfl (ht xs)
  | _ => cases k <;> first | rfl | exact h
theorem alike_ok : ∀ (k : Nat) (d : D) (n : Nat) (pu : Bool) (S : List SO), alkB k d = true → callN (mkT dl lq) (n + k + 1) pu .l_alike [d, d] S = .ok (.v (.bool true)) S := by
  intro k
  induction k with
  | zero => exact fun d n pu S h => alike_flat (alk0 h (fun xs e => by subst e; cases h) fun xs e => by subst e; cases h) n pu S
  | succ k ih =>
    intro d n pu S h
    cases d with
    | list xs =>
      have h : (decide (xs.length ≤ 1000000) && xs.all (alkB k)) = true := h
      rw [Bool.and_eq_true, decide_eq_true_eq, List.all_eq_true] at h
      refine alike_seq (m := n + (k + 1)) (xs := xs) rfl rfl rfl (fun j x S q => ?_) h.1 fun x hx S => ih x n true S (h.2 x hx)
      show L2.atI xs (0 + (j : Int)) = _
      rw [atI_zadd, q]
    | tuple xs =>
      have h : (decide (xs.length ≤ 1000000) && xs.all (alkB k)) = true := h
      rw [Bool.and_eq_true, decide_eq_true_eq, List.all_eq_true] at h
      refine alike_seq (m := n + (k + 1)) (xs := xs) rfl rfl rfl (fun j x S q => ?_) h.1 fun x hx S => ih x n true S (h.2 x hx)
      show L2.atI xs (0 + (j : Int)) = _
      rw [atI_zadd, q]
    | _ => exact alike_flat (alk0 (k := k + 1) h (fun xs e => by cases e) fun xs e => by cases e) (n + (k + 1)) pu S
theorem alk_sh : ∀ (k : Nat) (d : D), alkB k d = true → D.sh k d = true ∧ D.eqv d d = true := by
  intro k
  induction k with
  | zero =>
    intro d h
    cases d with
    | non => exact ⟨rfl, rfl⟩
    | int i => exact ⟨rfl, by rw [eqvI]; simp⟩
    | bool b => exact ⟨rfl, by cases b <;> rfl⟩
    | str x => exact ⟨h, eqvS x⟩
    | _ => cases h
  | succ k ih =>
    have many : ∀ xs : List D, xs.all (alkB k) = true → xs.all (D.sh k) = true ∧ D.eqvs xs xs = true := by
      intro xs
      induction xs with
      | nil => exact fun _ => ⟨rfl, rfl⟩
      | cons x xs ihx =>
        intro h
        rw [List.all_cons, Bool.and_eq_true] at h
        obtain ⟨a1, a2⟩ := ih x h.1
        obtain ⟨b1, b2⟩ := ihx h.2
        refine ⟨by rw [List.all_cons, a1, b1]; rfl, ?_⟩
        show (D.eqv x x && D.eqvs xs xs) = true
        rw [a2, b2]
        rfl
    intro d h
    cases d with
    | non => exact ⟨rfl, rfl⟩
    | int i => exact ⟨rfl, by rw [eqvI]; simp⟩
    | bool b => exact ⟨rfl, by cases b <;> rfl⟩
    | str x => exact ⟨h, eqvS x⟩
    | list xs =>
      have h : (decide (xs.length ≤ 1000000) && xs.all (alkB k)) = true := h
      rw [Bool.and_eq_true] at h
      exact many xs h.2
    | tuple xs =>
      have h : (decide (xs.length ≤ 1000000) && xs.all (alkB k)) = true := h
      rw [Bool.and_eq_true] at h
      exact many xs h.2
    | _ => cases h
theorem alk_mono : ∀ (k : Nat) (d : D), alkB k d = true → alkB (k + 1) d = true := by
  intro k
  induction k with
  | zero =>
    intro d h
    cases d with
    | non => rfl
    | int i => rfl
    | bool b => rfl
    | str x => exact h
    | _ => cases h
  | succ k ih =>
    intro d h
    cases d with
    | non => rfl
    | int i => rfl
    | bool b => rfl
    | str x => exact h
    | list xs =>
      have h : (decide (xs.length ≤ 1000000) && xs.all (alkB k)) = true := h
      rw [Bool.and_eq_true, List.all_eq_true] at h
      show (decide (xs.length ≤ 1000000) && xs.all (alkB (k + 1))) = true
      rw [Bool.and_eq_true, List.all_eq_true]
      exact ⟨h.1, fun x hx => ih x (h.2 x hx)⟩
    | tuple xs =>
      have h : (decide (xs.length ≤ 1000000) && xs.all (alkB k)) = true := h
      rw [Bool.and_eq_true, List.all_eq_true] at h
      show (decide (xs.length ≤ 1000000) && xs.all (alkB (k + 1))) = true
      rw [Bool.and_eq_true, List.all_eq_true]
      exact ⟨h.1, fun x hx => ih x (h.2 x hx)⟩
    | _ => cases h
theorem alk_add (j : Nat) : ∀ (k : Nat) (d : D), alkB k d = true → alkB (k + j) d = true := by
  induction j with
  | zero => exact fun k d h => h
  | succ j ih => exact fun k d h => alk_mono _ d (ih k d h)
theorem alk_tup {k : Nat} {xs : List D} (hl : xs.length ≤ 1000000) (h : ∀ x ∈ xs, alkB k x = true) : alkB (k + 1) (.tuple xs) = true := by
  show (decide (xs.length ≤ 1000000) && xs.all (alkB k)) = true
  rw [Bool.and_eq_true, decide_eq_true_eq, List.all_eq_true]
  exact ⟨hl, h⟩
theorem alk_lst {k : Nat} {xs : List D} (hl : xs.length ≤ 1000000) (h : ∀ x ∈ xs, alkB k x = true) : alkB (k + 1) (.list xs) = true := by
  show (decide (xs.length ≤ 1000000) && xs.all (alkB k)) = true
  rw [Bool.and_eq_true, decide_eq_true_eq, List.all_eq_true]
  exact ⟨hl, h⟩
theorem alk_lot (l : List Int) (h : l.length ≤ 1000000) : alkB 1 (lotD l) = true := alk_tup (by rw [List.length_map]; exact h) fun x hx => by
  obtain ⟨i, _, rfl⟩ := List.mem_map.mp hx
  rfl
theorem alk_ints (l : List Int) (h : l.length ≤ 1000000) : alkB 1 (.list (l.map .int)) = true := alk_lst (by rw [List.length_map]; exact h) fun x hx => by
  obtain ⟨i, _, rfl⟩ := List.mem_map.mp hx
  rfl
theorem alk_probes (ps : List (List Int)) (h : ps.length ≤ 1000000) (h2 : ∀ p ∈ ps, p.length ≤ 1000000) : alkB 2 (probesD ps) = true := alk_tup (by rw [List.length_map]; exact h) fun x hx => by
  obtain ⟨p, hp, rfl⟩ := List.mem_map.mp hx
  exact alk_lot p (h2 p hp)
theorem alk_plan (t : Int) (ps : List (List Int)) (h : ps.length ≤ 1000000) (h2 : ∀ p ∈ ps, p.length ≤ 1000000) : alkB 3 (planD t ps) = true := alk_tup (by simp) fun x hx => by
  rcases List.mem_cons.mp hx with rfl | hx
  · rfl
  · rw [List.mem_singleton.mp hx]
    exact alk_probes ps h h2
/-- what is the same is not otherwise -/
theorem c_neR {k : Nat} {d : D} (hk : k ≤ 60) (h : alkB k d = true) : cmpV .ne d d = some false := by
  have q := alk_sh 60 d (by have := alk_add (60 - k) k d h; rwa [show k + (60 - k) = 60 by omega] at this)
  rw [c_ne q.1 q.1, q.2]
  rfl
theorem c_eqR {k : Nat} {d : D} (hk : k ≤ 60) (h : alkB k d = true) : cmpV .eq d d = some true := by
  have q := alk_sh 60 d (by have := alk_add (60 - k) k d h; rwa [show k + (60 - k) = 60 by omega] at this)
  rw [c_eq q.1 q.1, q.2]
end Pb
end

section
set_option Elab.async false
set_option linter.all false
set_option maxRecDepth 100000
set_option maxHeartbeats 1000000
namespace Pb
open PySem
variable {dl : FD} {lq : Nat → PySem.Addr → List (PySem.Addr × L2.HO) → Prop}
variable {n : Nat} {pu : Bool} {S : List SO}
local macro_rules
  | `(tactic| exists $es,*) => do
    let xs := es.getElems
    let mut hs ← `(tactic| fail)
    for x in xs.reverse do
      hs ← `(tactic| first | exact $x | ($hs:tactic))
    let mut cs ← `(tactic| fail)
    for x in xs.reverse do
      cs ← `(tactic| first | (refine gate4 $x ?_ ?_ <;> rfl) | ($cs:tactic))
    `(tactic| first
      | ((with_reducible apply e_var); rfl)
      | (with_reducible exact e_lit)
      | (with_reducible exact ea_nil)
      | ((with_reducible apply ea_cons) <;> exists $es,*)
      | ((with_reducible apply e_bin) <;> exists $es,*)
      | ((with_reducible apply e_cmp) <;> exists $es,*)
      | ((with_reducible apply e_idx) <;> exists $es,*)
      | ((with_reducible apply e_callT) <;> exists $es,*)
      | ((with_reducible apply e_prim) <;> exists $es,*)
      | ((with_reducible apply e_tup) <;> exists $es,*)
      | ((with_reducible apply e_lst) <;> exists $es,*)
      | ((with_reducible apply x_and) <;> exists $es,*)
      | ((with_reducible apply x_or) <;> exists $es,*)
      | ((with_reducible apply e_not) <;> exists $es,*)
      | ((with_reducible apply x_ite) <;> exists $es,*)
      | ((with_reducible apply x_chain) <;> exists $es,*)
      | ((with_reducible apply e_isN) <;> exists $es,*)
      | ((with_reducible apply e_notN) <;> exists $es,*)
      | ((with_reducible apply e_slc) <;> exists $es,*)
      | ((with_reducible apply e_sort) <;> exists $es,*)
      | ((with_reducible apply e_comp) <;> exists $es,*)
      | ((with_reducible apply e_rgT) <;> exists $es,*)
      | ((with_reducible apply e_rgL) <;> exists $es,*)
      | ((with_reducible apply e_bor); rfl)
      | ((with_reducible apply b_nilX); rfl)
      | ((with_reducible apply b_nilY) <;> exact rfl)
      | ((with_reducible apply x_bX) <;> exists $es,*)
      | ((with_reducible apply co_nx) <;> exists $es,*)
      | (with_reducible exact co_rt)
      | (with_reducible exact co_ex)
      | ((with_reducible apply gate_cont); (first | exact co_rt | exact co_ex))
      | ((with_reducible apply s_set) <;> exists $es,*)
      | ((with_reducible apply x_sIte) <;> exists $es,*)
      | ((with_reducible apply s_for) <;> exists $es,*)
      | ((with_reducible apply s_drop) <;> exists $es,*)
      | ((with_reducible apply s_ret) <;> exists $es,*)
      | ((with_reducible apply s_par2) <;> exists $es,*)
      | ((with_reducible apply s_unp) <;> exists $es,*)
      | ((with_reducible apply s_setO) <;> exists $es,*)
      | ((with_reducible apply s_app) <;> exists $es,*)
      | ((with_reducible apply s_ext) <;> exists $es,*)
      | ((with_reducible apply s_setI) <;> exists $es,*)
      | ((with_reducible apply s_retO) <;> exists $es,*)
      | ((with_reducible apply s_retL) <;> exists $es,*)
      | ((with_reducible apply s_raise) <;> exists $es,*)
      | ((with_reducible apply and_f); rfl)
      | ((with_reducible apply and_t) <;> exists $es,*)
      | ((with_reducible apply or_t); rfl)
      | ((with_reducible apply or_f) <;> exists $es,*)
      | ((with_reducible apply ite_f) <;> exists $es,*)
      | ((with_reducible apply ite_t) <;> exists $es,*)
      | ((with_reducible apply ch_f); rfl)
      | ((with_reducible apply ch_t) <;> exists $es,*)
      | ((with_reducible apply ei_rng) <;> exists $es,*)
      | ((with_reducible apply ei_seq) <;> exists $es,*)
      | ((with_reducible apply ei_zip) <;> exists $es,*)
      | ((with_reducible apply ei_enum) <;> exists $es,*)
      | ((with_reducible apply x_f) <;> exists $es,*)
      | ((with_reducible apply eo_some) <;> exists $es,*)
      | (with_reducible exact eo_none)
      | ((with_reducible apply gate_call); (first | with_reducible assumption | ($cs:tactic)
))
      | ((with_reducible apply gate_word); (first | ((with_reducible apply e_word) <;> exists $es,*) | ($hs:tactic)
))
      | ((with_reducible apply gate_wordL); (first | ($hs:tactic)
))
      | (with_reducible exact e_lam)
      | ((with_reducible apply gate_for); (first | with_reducible assumption | ($hs:tactic)
))
      | ((with_reducible apply gate_comp); (first | with_reducible assumption | ($hs:tactic)
))
      | ((with_reducible show cmpV .le _ _ = _); (first | (exact c_le_t (by omega)) | (exact c_le_f (by omega)) | (($hs:tactic)) | (with_reducible assumption) | (rfl)
))
      | ((with_reducible show cmpV .lt _ _ = _); (first | (exact c_lt_t (by omega)) | (exact c_lt_f (by omega)) | (($hs:tactic)) | (with_reducible assumption) | (rfl)
))
      | ((with_reducible show cmpV .gt _ _ = _); (first | (exact c_gt_t (by omega)) | (exact c_gt_f (by omega)) | (($hs:tactic)) | (with_reducible assumption) | (rfl)
))
      | ((with_reducible show cmpV .ge _ _ = _); (first | (exact c_ge_t (by omega)) | (exact c_ge_f (by omega)) | (($hs:tactic)) | (with_reducible assumption) | (rfl)
))
      | ((with_reducible show cmpV .eq _ _ = _); (first | (exact c_eqI_t (by omega)) | (exact c_eqI_f (by omega)) | (($hs:tactic)) | (with_reducible assumption) | (rfl)
))
      | ((with_reducible show cmpV .ne _ _ = _); (first | (exact c_neI_t (by omega)) | (exact c_neI_f (by omega)) | (($hs:tactic)) | (with_reducible assumption) | (rfl)
))
      | ((with_reducible show cmpV _ _ _ = _); (first | (($hs:tactic)) | (with_reducible assumption) | (rfl)
))
      | ((with_reducible show binV .mod _ _ = _); (first | (exact v_mod (by omega))
))
      | ((with_reducible show binV .fdiv _ _ = _); (first | (exact v_fdiv (by omega) (by omega)) | (($hs:tactic)) | (with_reducible assumption)
))
      | ((with_reducible show binV .mul _ _ = _); (first | (($hs:tactic)) | (with_reducible assumption) | (exact v_mulR rfl) | (exact v_mulL rfl) | (exact v_mulM (by omega) (by omega)) | (rfl)
))
      | ((with_reducible show binV _ _ _ = _); (first | (($hs:tactic)) | (with_reducible assumption) | (rfl)
))
      | ((with_reducible show primV _ _ = _); (first | (($hs:tactic)) | (with_reducible assumption) | (rfl) | (exact len_lot _) | (exact len_probes _)
))
      | ((with_reducible show rngV _ = _); (first | (($hs:tactic)) | (with_reducible assumption) | (exact rngN (by omega)) | (rfl)
))
      | ((with_reducible show idxV _ _ _ = _); (first | (($hs:tactic)) | (with_reducible assumption) | (rfl)
))
      | ((with_reducible show seqV _ = _); (first | (($hs:tactic)) | (with_reducible assumption) | (rfl)
))
      | ((with_reducible show zip2V _ _ = _); (first | (($hs:tactic)) | (with_reducible assumption) | (rfl)
))
      | ((with_reducible show slcV _ _ _ = _); (first | (($hs:tactic)) | (with_reducible assumption) | (rfl)
))
      | ((with_reducible show sortV _ _ = _); (first | (($hs:tactic)) | (with_reducible assumption) | (rfl)
))
      | ((with_reducible show bindTg _ _ _ = _); (first | (($hs:tactic)) | (with_reducible assumption) | (rfl)
))
      | ((with_reducible show rng3V _ = _); (first | (($hs:tactic)) | (with_reducible assumption) | (rfl)
))
      | ((with_reducible show setV _ _ _ _ = _); (first | (($hs:tactic)) | (with_reducible assumption) | (rfl)
))
      | ((with_reducible show okX _ _ = _); (first | (($hs:tactic)) | (with_reducible assumption) | (rfl)
))
      | ((with_reducible show fin _ = _); (first | (($hs:tactic)) | (with_reducible assumption) | (rfl)
))
      | ((with_reducible show _ ≤ sizeLine); (first | (exact szR rfl) | (exact sz (by simp <;> omega))
))
      | ((with_reducible show _ < sizeLine); (first | (exact szR rfl) | (exact sz (by simp <;> omega))
))
      | ((with_reducible apply e_callbT) <;> exists $es,*)
      | ((with_reducible show (_ : Bool) = _); rfl)
      | ((with_reducible show (_ : CB) = _); rfl)
      | ((with_reducible show (_ : Nat) = _); rfl)
      | ((with_reducible show (_ : Option Sl) = _); rfl)
      | ((with_reducible show (_ : D) = _); rfl)
      | ((with_reducible show (_ : List D) = _); rfl)
      | ((with_reducible show (_ : Fn) = _); rfl)
      | ((with_reducible show (_ : Option Rho) = _); rfl)

      )
/-! parts of a body -/
def dropB : CB → Nat → CB
  | b, 0 => b
  | .nil, _ => .nil
  | .cons _ b, k + 1 => dropB b k
def takeB : CB → Nat → CB
  | _, 0 => .nil
  | .nil, _ => .nil
  | .cons s b, k + 1 => .cons s (takeB b k)
def cutB (b : CB) (i j : Nat) : CB := takeB (dropB b i) (j - i)
def appB : CB → CB → CB
  | .nil, c => c
  | .cons s b, c => .cons s (appB b c)
theorem x_app {L : Lk} {c : CB} {res : R Fl} : ∀ {b : CB} {r r1 : Rho} {S S1 : List SO}, exB L b r S = .ok (.nx r1) S1 → exB L c r1 S1 = res → exB L (appB b c) r S = res
  | .nil, r, r1, S, S1, h, h2 => by
    cases h
    exact h2
  | .cons s b, r, r1, S, S1, h, h2 => by
    change M.bind (exS L s r) _ S = _ at h
    unfold M.bind at h
    cases q : exS L s r S with
    | ok f S' =>
      rw [q] at h
      cases f with
      | nx r' => exact b_nx q (x_app h h2)
      | rt o => cases h
    | exc x S' => rw [q] at h; cases h
    | bad => rw [q] at h; cases h
def forB : CS → CB
  | .for_ _ _ b => b
  | _ => .nil
def nthB : CB → Nat → CS
  | .nil, _ => .never
  | .cons s _, 0 => s
  | .cons _ b, k + 1 => nthB b k
/-! what is no number -/
def noInt : D → Bool
  | .int _ => false
  | .loc _ => false
  | .scr _ => false
  | .clo _ => false
  | .lam _ _ => false
  | _ => true
theorem num_x {d : D} (h : noInt d = true) (a b : D) : callN (mkT dl lq) (n + 1) pu .is_number [d, a, b] S = .ok (.v (.bool false)) S := by
  rw [call_is_number]
  cases d with
  | non => exists ea_nil
  | bool b => exists ea_nil
  | str x => exists ea_nil
  | list xs => exists ea_nil
  | tuple xs => exists ea_nil
  | _ => cases h
theorem num_lo {i a b : Int} (h : i < a) : callN (mkT dl lq) (n + 1) pu .is_number [.int i, .int a, .int b] S = .ok (.v (.bool false)) S := by
  rw [call_is_number]
  exists ea_nil
theorem num_hi {i a b : Int} (h : b < i) : callN (mkT dl lq) (n + 1) pu .is_number [.int i, .int a, .int b] S = .ok (.v (.bool false)) S := by
  rw [call_is_number]
  by_cases h2 : a ≤ i <;> exists ea_nil
/-- no number from a to b -/
def OutN (a b : Int) : D → Prop
  | .int i => i < a ∨ b < i
  | d => noInt d = true
theorem num_out {a b : Int} {d : D} (h : OutN a b d) : callN (mkT dl lq) (n + 1) pu .is_number [d, .int a, .int b] S = .ok (.v (.bool false)) S := by
  cases d with
  | int i => exact h.elim num_lo num_hi
  | _ => exact num_x h _ _
theorem need_count_x {a b : Int} {d : D} (h : OutN a b d) : callN (mkT dl lq) (n + 2) pu .need_count [d, .int a, .int b] S = .exc ⟨.badCount, []⟩ S := by
  rw [call_need_count]
  exists num_out h
theorem need_lot_ok {t : Int} {ps : List (List Int)} {l : List Int} (hl : l.length ≤ 1000) (h : Rise t l) : callN (mkT dl lq) (n + 3) pu .need_lot [planD t ps, lotD l] S = .ok (.v .non) S := by
  rw [call_need_lot]
  exists is_lot_ok hl h
theorem need_lot_x {t : Int} {ps : List (List Int)} {d : D} (h : callN (mkT dl lq) (n + 2) true .is_lot [d, .int t] S = .ok (.v (.bool false)) S) : callN (mkT dl lq) (n + 3) pu .need_lot [planD t ps, d] S = .exc ⟨.badLot, []⟩ S := by
  rw [call_need_lot]
  exists h
/-! plans that are none -/
theorem np_loop {t : Int} {ps : List (List Int)} {items : List D} (hi : ∀ k x, items[k]? = some x → ∃ p : List Int, x = .tuple [.int (k : Nat), lotD p] ∧ k < 16 ∧ Rise t p ∧ p ≠ [] ∧ p.length ≤ 1000) : ∃ a b, forGo (fF (lk (mkT dl lq) (n + 2) true) (.tup (.cons (.var 3) (.cons (.var 4) .nil))) (forB (nthB d_need_plan.body 3))) items [.v (planD t ps), .v (.int t), .v (probesD ps), .un, .un] S = .ok (.nx [.v (planD t ps), .v (.int t), .v (probesD ps), a, b]) S := by
  obtain ⟨r', S', hf, rfl, a, b, rfl⟩ := for_inv (f := fF (lk (mkT dl lq) (n + 2) true) (.tup (.cons (.var 3) (.cons (.var 4) .nil))) (forB (nthB d_need_plan.body 3)))
    (items := items) (r := [.v (planD t ps), .v (.int t), .v (probesD ps), .un, .un]) (S := S) (fun _ r S' => S' = S ∧ ∃ a b, r = [.v (planD t ps), .v (.int t), .v (probesD ps), a, b]) (fun k x r S' hx hP => by
    obtain ⟨rfl, a, b, rfl⟩ := hP
    obtain ⟨p, rfl, hk, hr, hne, hl⟩ := hi k x hx
    refine ⟨_, _, ff_in rfl (b_nx (s_ite_f (e_or_f (e_cmp (e_var rfl) e_lit (u := false) (c_eqI_f (by omega))) (e_or_f (e_not (u := true) (e_callT rfl (ea2 (e_var rfl) (e_var rfl)) (is_lot_ok hl hr))) (e_cmp (e_var rfl) (e_tup rfl ea_nil (sz (by simp))) (u := false) ?_))) b_nil) b_nil), rfl, _, _, rfl⟩
    · show cmpV .eq (lotD p) (lotD []) = _
      rw [c_eq (shL _ _) (shL _ _), eqvL]
      simp [hne]) ⟨rfl, _, _, rfl⟩
  exact ⟨a, b, hf⟩
theorem need_plan_x16 {t : Int} {ps : List (List Int)} (h1 : 1 ≤ t) (h2 : t ≤ 10) (hn : 16 < ps.length) (hp : ∀ p ∈ ps, Rise t p ∧ p ≠ [] ∧ p.length ≤ 1000) : callN (mkT dl lq) (n + 3) pu .need_plan [planD t ps] S = .exc ⟨.badPlan, [.int 16]⟩ S := by
  rw [call_need_plan]
  have hlen : (enumV (ps.map lotD)).length = ps.length := by unfold enumV; simp
  have h16 : (enumV (ps.map lotD))[16]'(by omega) = .tuple [.int (16 : Nat), lotD (ps[16]'hn)] := by
    unfold enumV
    simp
  have e : enumV (ps.map lotD) = (enumV (ps.map lotD)).take 16 ++ .tuple [.int (16 : Nat), lotD (ps[16]'hn)] :: (enumV (ps.map lotD)).drop 17 := by
    rw [← h16, ← List.drop_eq_getElem_cons, List.take_append_drop]
  obtain ⟨a, b, hf⟩ := np_loop (dl := dl) (lq := lq) (n := n) (S := S) (t := t) (ps := ps) (items := (enumV (ps.map lotD)).take 16) fun k x hx => by
    rw [List.getElem?_take] at hx
    by_cases hk : k < 16
    · rw [if_pos hk] at hx
      obtain ⟨d, rfl, hd⟩ := enumV_get hx
      rw [List.getElem?_map] at hd
      cases q : ps[k]? with
      | none => rw [q] at hd; cases hd
      | some p =>
        rw [q] at hd
        cases hd
        exact ⟨p, rfl, hk, hp p (List.mem_of_getElem? q)⟩
    · rw [if_neg hk] at hx
      cases hx
  have hx : forGo (fF (lk (mkT dl lq) (n + 2) true) (.tup (.cons (.var 3) (.cons (.var 4) .nil))) (forB (nthB d_need_plan.body 3))) (enumV (ps.map lotD)) [.v (planD t ps), .v (.int t), .v (probesD ps), .un, .un] S = .exc ⟨.badPlan, [.int 16]⟩ S := by
    rw [e]
    refine for_exc hf (ff_in rfl ?_)
    exists ea_nil
  exists is_number_ok h1 h2, hx
end Pb
end

section
set_option Elab.async false
set_option linter.all false
set_option maxRecDepth 100000
set_option maxHeartbeats 1000000
namespace Pb
open PySem
variable {dl : FD} {lq : Nat → PySem.Addr → List (PySem.Addr × L2.HO) → Prop}
variable {n : Nat} {pu : Bool} {S : List SO}
local macro_rules
  | `(tactic| exists $es,*) => do
    let xs := es.getElems
    let mut hs ← `(tactic| fail)
    for x in xs.reverse do
      hs ← `(tactic| first | exact $x | ($hs:tactic))
    let mut cs ← `(tactic| fail)
    for x in xs.reverse do
      cs ← `(tactic| first | (refine gate4 $x ?_ ?_ <;> rfl) | ($cs:tactic))
    `(tactic| first
      | ((with_reducible apply e_var); rfl)
      | (with_reducible exact e_lit)
      | (with_reducible exact ea_nil)
      | ((with_reducible apply ea_cons) <;> exists $es,*)
      | ((with_reducible apply e_bin) <;> exists $es,*)
      | ((with_reducible apply e_cmp) <;> exists $es,*)
      | ((with_reducible apply e_idx) <;> exists $es,*)
      | ((with_reducible apply e_callT) <;> exists $es,*)
      | ((with_reducible apply e_prim) <;> exists $es,*)
      | ((with_reducible apply e_tup) <;> exists $es,*)
      | ((with_reducible apply e_lst) <;> exists $es,*)
      | ((with_reducible apply x_and) <;> exists $es,*)
      | ((with_reducible apply x_or) <;> exists $es,*)
      | ((with_reducible apply e_not) <;> exists $es,*)
      | ((with_reducible apply x_ite) <;> exists $es,*)
      | ((with_reducible apply x_chain) <;> exists $es,*)
      | ((with_reducible apply e_isN) <;> exists $es,*)
      | ((with_reducible apply e_notN) <;> exists $es,*)
      | ((with_reducible apply e_slc) <;> exists $es,*)
      | ((with_reducible apply e_sort) <;> exists $es,*)
      | ((with_reducible apply e_comp) <;> exists $es,*)
      | ((with_reducible apply e_rgT) <;> exists $es,*)
      | ((with_reducible apply e_rgL) <;> exists $es,*)
      | ((with_reducible apply e_bor); rfl)
      | ((with_reducible apply b_nilX); rfl)
      | ((with_reducible apply b_nilY) <;> exact rfl)
      | ((with_reducible apply x_bX) <;> exists $es,*)
      | ((with_reducible apply co_nx) <;> exists $es,*)
      | (with_reducible exact co_rt)
      | (with_reducible exact co_ex)
      | ((with_reducible apply gate_cont); (first | exact co_rt | exact co_ex))
      | ((with_reducible apply s_set) <;> exists $es,*)
      | ((with_reducible apply x_sIte) <;> exists $es,*)
      | ((with_reducible apply s_for) <;> exists $es,*)
      | ((with_reducible apply s_drop) <;> exists $es,*)
      | ((with_reducible apply s_ret) <;> exists $es,*)
      | ((with_reducible apply s_par2) <;> exists $es,*)
      | ((with_reducible apply s_unp) <;> exists $es,*)
      | ((with_reducible apply s_setO) <;> exists $es,*)
      | ((with_reducible apply s_app) <;> exists $es,*)
      | ((with_reducible apply s_ext) <;> exists $es,*)
      | ((with_reducible apply s_setI) <;> exists $es,*)
      | ((with_reducible apply s_retO) <;> exists $es,*)
      | ((with_reducible apply s_retL) <;> exists $es,*)
      | ((with_reducible apply s_raise) <;> exists $es,*)
      | ((with_reducible apply and_f); rfl)
      | ((with_reducible apply and_t) <;> exists $es,*)
      | ((with_reducible apply or_t); rfl)
      | ((with_reducible apply or_f) <;> exists $es,*)
      | ((with_reducible apply ite_f) <;> exists $es,*)
      | ((with_reducible apply ite_t) <;> exists $es,*)
      | ((with_reducible apply ch_f); rfl)
      | ((with_reducible apply ch_t) <;> exists $es,*)
      | ((with_reducible apply ei_rng) <;> exists $es,*)
      | ((with_reducible apply ei_seq) <;> exists $es,*)
      | ((with_reducible apply ei_zip) <;> exists $es,*)
      | ((with_reducible apply ei_enum) <;> exists $es,*)
      | ((with_reducible apply x_f) <;> exists $es,*)
      | ((with_reducible apply eo_some) <;> exists $es,*)
      | (with_reducible exact eo_none)
      | ((with_reducible apply gate_call); (first | with_reducible assumption | ($cs:tactic)
))
      | ((with_reducible apply gate_word); (first | ((with_reducible apply e_word) <;> exists $es,*) | ($hs:tactic)
))
      | ((with_reducible apply gate_wordL); (first | ($hs:tactic)
))
      | (with_reducible exact e_lam)
      | ((with_reducible apply gate_for); (first | with_reducible assumption | ($hs:tactic)
))
      | ((with_reducible apply gate_comp); (first | with_reducible assumption | ($hs:tactic)
))
      | ((with_reducible show cmpV .le _ _ = _); (first | (exact c_le_t (by omega)) | (exact c_le_f (by omega)) | (($hs:tactic)) | (with_reducible assumption) | (rfl)
))
      | ((with_reducible show cmpV .lt _ _ = _); (first | (exact c_lt_t (by omega)) | (exact c_lt_f (by omega)) | (($hs:tactic)) | (with_reducible assumption) | (rfl)
))
      | ((with_reducible show cmpV .gt _ _ = _); (first | (exact c_gt_t (by omega)) | (exact c_gt_f (by omega)) | (($hs:tactic)) | (with_reducible assumption) | (rfl)
))
      | ((with_reducible show cmpV .ge _ _ = _); (first | (exact c_ge_t (by omega)) | (exact c_ge_f (by omega)) | (($hs:tactic)) | (with_reducible assumption) | (rfl)
))
      | ((with_reducible show cmpV .eq _ _ = _); (first | (exact c_eqI_t (by omega)) | (exact c_eqI_f (by omega)) | (($hs:tactic)) | (with_reducible assumption) | (rfl)
))
      | ((with_reducible show cmpV .ne _ _ = _); (first | (exact c_neI_t (by omega)) | (exact c_neI_f (by omega)) | (($hs:tactic)) | (with_reducible assumption) | (rfl)
))
      | ((with_reducible show cmpV _ _ _ = _); (first | (($hs:tactic)) | (with_reducible assumption) | (rfl)
))
      | ((with_reducible show binV .mod _ _ = _); (first | (exact v_mod (by omega))
))
      | ((with_reducible show binV .fdiv _ _ = _); (first | (exact v_fdiv (by omega) (by omega)) | (($hs:tactic)) | (with_reducible assumption)
))
      | ((with_reducible show binV .mul _ _ = _); (first | (($hs:tactic)) | (with_reducible assumption) | (exact v_mulR rfl) | (exact v_mulL rfl) | (exact v_mulM (by omega) (by omega)) | (rfl)
))
      | ((with_reducible show binV _ _ _ = _); (first | (($hs:tactic)) | (with_reducible assumption) | (rfl)
))
      | ((with_reducible show primV _ _ = _); (first | (($hs:tactic)) | (with_reducible assumption) | (rfl) | (exact len_lot _) | (exact len_probes _)
))
      | ((with_reducible show rngV _ = _); (first | (($hs:tactic)) | (with_reducible assumption) | (exact rngN (by omega)) | (rfl)
))
      | ((with_reducible show idxV _ _ _ = _); (first | (($hs:tactic)) | (with_reducible assumption) | (rfl)
))
      | ((with_reducible show seqV _ = _); (first | (($hs:tactic)) | (with_reducible assumption) | (rfl)
))
      | ((with_reducible show zip2V _ _ = _); (first | (($hs:tactic)) | (with_reducible assumption) | (rfl)
))
      | ((with_reducible show slcV _ _ _ = _); (first | (($hs:tactic)) | (with_reducible assumption) | (rfl)
))
      | ((with_reducible show sortV _ _ = _); (first | (($hs:tactic)) | (with_reducible assumption) | (rfl)
))
      | ((with_reducible show bindTg _ _ _ = _); (first | (($hs:tactic)) | (with_reducible assumption) | (rfl)
))
      | ((with_reducible show rng3V _ = _); (first | (($hs:tactic)) | (with_reducible assumption) | (rfl)
))
      | ((with_reducible show setV _ _ _ _ = _); (first | (($hs:tactic)) | (with_reducible assumption) | (rfl)
))
      | ((with_reducible show okX _ _ = _); (first | (($hs:tactic)) | (with_reducible assumption) | (rfl)
))
      | ((with_reducible show fin _ = _); (first | (($hs:tactic)) | (with_reducible assumption) | (rfl)
))
      | ((with_reducible show _ ≤ sizeLine); (first | (exact szR rfl) | (exact sz (by simp <;> omega))
))
      | ((with_reducible show _ < sizeLine); (first | (exact szR rfl) | (exact sz (by simp <;> omega))
))
      | ((with_reducible apply e_callbT) <;> exists $es,*)
      | ((with_reducible show (_ : Bool) = _); rfl)
      | ((with_reducible show (_ : CB) = _); rfl)
      | ((with_reducible show (_ : Nat) = _); rfl)
      | ((with_reducible show (_ : Option Sl) = _); rfl)
      | ((with_reducible show (_ : D) = _); rfl)
      | ((with_reducible show (_ : List D) = _); rfl)
      | ((with_reducible show (_ : Fn) = _); rfl)
      | ((with_reducible show (_ : Option Rho) = _); rfl)

      )
theorem answers_ok {t : Nat} {ps : List (List Int)} {l : List Int} (h1 : 1 ≤ t) (h2 : t ≤ 10) (hn : ps.length ≤ 16) (hp : ∀ p ∈ ps, OkP t p) (hl : l.length ≤ 1000) (h : Rise t l) : callN (mkT dl lq) (n + 4) pu .answers [planD t ps, lotD l] S = .ok (.v (lotD (ansL ps l))) S := by
  rw [call_answers]
  exists need_plan_ok (by omega) (by omega) hn hp, need_lot_ok (ps := ps) hl h, answers_of_ok t ps l
theorem answers_x {t : Nat} {ps : List (List Int)} {d : D} (h1 : 1 ≤ t) (h2 : t ≤ 10) (hn : ps.length ≤ 16) (hp : ∀ p ∈ ps, OkP t p) (h : callN (mkT dl lq) (n + 2) true .is_lot [d, .int t] S = .ok (.v (.bool false)) S) : callN (mkT dl lq) (n + 4) pu .answers [planD t ps, d] S = .exc ⟨.badLot, []⟩ S := by
  rw [call_answers]
  have q := need_lot_x (pu := true) (dl := dl) (lq := lq) (n := n) (ps := ps) h
  refine x_f rfl (x_b (s_drop (e_callT rfl (ea1 (e_var rfl)) (need_plan_ok (by omega) (by omega) hn hp))) (co_nx (x_b (s_dropx (e_callx rfl (ea2 (e_var rfl) (e_var rfl)) q)) co_ex))) rfl
/-- lots that are none, of t things -/
theorem bad_lot {t : Nat} (h1 : 1 ≤ t) (h2 : t ≤ 10) {d : D} (h : d = .tuple [.int t] ∨ d = .tuple [.int (-1)] ∨ d = .tuple [.int 0, .int 0] ∨ (∃ xs, d = .list xs) ∨ d = .non ∨ d = .int 5 ∨ d = .tuple [.bool true] ∨ d = .tuple [.str "0"]) : callN (mkT dl lq) (n + 2) pu .is_lot [d, .int t] S = .ok (.v (.bool false)) S := by
  rw [call_is_lot]
  have ht : t = 1 ∨ t = 2 ∨ t = 3 ∨ t = 4 ∨ t = 5 ∨ t = 6 ∨ t = 7 ∨ t = 8 ∨ t = 9 ∨ t = 10 := by omega
  rcases h with rfl | rfl | rfl | ⟨xs, rfl⟩ | rfl | rfl | rfl | rfl <;> rcases ht with rfl | rfl | rfl | rfl | rfl | rfl | rfl | rfl | rfl | rfl <;> kernel_rfl
/-! plans beside each other -/
def shiftL (t : Int) (p : List Int) : List Int := p.map (· + t)
def besL (t : Int) (ps qs : List (List Int)) : List (List Int) := ps ++ qs.map (shiftL t)
theorem shift_comp {L : Lk} {r : Rho} {t : Int} {p : List Int} {e : CE} {i : Nat} (he : ∀ x, ev L e ((wipeR r [i]).set i (.v (.int x))) S = .ok (.v (.int (x + t))) S) : compGo (cF L e (.var i) .nil [i] r) (p.map D.int) S = .ok ((shiftL t p).map D.int) S :=
  comp_mapE (enc := D.int) (g := fun x => some (.int (x + t))) (fun x hx => cf_all rfl (he x) rfl) (by
    rw [fm_map]
    unfold shiftL
    rw [List.map_map]
    rfl)
theorem rise_w {t u : Nat} {p : List Int} (h : OkP t p) : OkP (t + u) p := ⟨⟨h.1.up, fun x hx => by have := h.1.bd x hx; omega⟩, h.2⟩
theorem rise_shift {t u : Nat} {p : List Int} (h : OkP u p) : OkP (t + u) (shiftL t p) := ⟨⟨by
  unfold shiftL
  rw [List.pairwise_map]
  exact h.1.up.imp (fun {a b} h => by omega), fun x hx => by
    obtain ⟨y, hy, rfl⟩ := List.mem_map.mp hx
    have := h.1.bd y hy
    omega⟩, by
  unfold shiftL
  simpa using h.2.1, by
  unfold shiftL
  simpa using h.2.2⟩
theorem bes_ok {t u : Nat} {ps qs : List (List Int)} (hp : ∀ p ∈ ps, OkP t p) (hq : ∀ p ∈ qs, OkP u p) : ∀ p ∈ besL t ps qs, OkP (t + u) p := fun p h => by
  rcases List.mem_append.mp h with h | h
  · exact rise_w (hp p h)
  · obtain ⟨q, hm, rfl⟩ := List.mem_map.mp h
    exact rise_shift (hq q hm)
theorem bes_add {t : Int} {ps qs : List (List Int)} (h : ps.length ≤ 1000) (h2 : qs.length ≤ 1000) : binV .add (probesD ps) (probesD (qs.map (shiftL t))) = some (.v (probesD (besL t ps qs))) := by
  show (if (ps.map lotD).length + ((qs.map (shiftL t)).map lotD).length ≤ sizeLine then _ else none) = _
  rw [if_pos (sz (by simp; omega))]
  show some (Out.v (.tuple (ps.map lotD ++ (qs.map (shiftL t)).map lotD))) = some (Out.v (.tuple ((ps ++ qs.map (shiftL t)).map lotD)))
  rw [List.map_append]
section
variable {t u : Nat} {ps qs : List (List Int)}
theorem bes_set (h1 : ps.length ≤ 16) (h2 : qs.length ≤ 16) : exS (lk (mkT dl lq) n true) (nthB d_beside.body 2) [.v (planD t ps), .v (planD u qs), .un, .un, .un] S = .ok (.nx [.v (planD t ps), .v (planD u qs), .v (planD ((t : Int) + u) (besL t ps qs)), .un, .un]) S := by
  have hc : compGo (cF (lk (mkT dl lq) n true) (.prim .tupOf (.cons (.comp (.bin .add (.var 4) (.idx (.var 0) (.lit (.int 0)))) (.var 4) (.seq (.var 3)) .nil [4]) .nil)) (.var 3) .nil [3] [.v (planD t ps), .v (planD u qs), .un, .un, .un]) (qs.map lotD) S = .ok ((qs.map (shiftL t)).map lotD) S :=
    comp_mapE (enc := lotD) (g := fun p => some (lotD (shiftL t p))) (fun p hp => cf_all rfl (e_prim (ea1 (e_comp (ei_seq (e_var rfl) rfl) (shift_comp (t := t) fun x => e_bin (e_var rfl) (e_idx (e_var rfl) e_lit rfl) rfl))) rfl) rfl) (by
      rw [fm_map, List.map_map]
      rfl)
  refine Eq.trans (s_set (o := .v (planD ((t : Int) + u) (besL t ps qs))) ?_) rfl
  exact e_tup rfl (ea2 (e_bin (o := .v (.int ((t : Int) + u))) (e_idx (e_var rfl) e_lit rfl) (e_idx (e_var rfl) e_lit rfl) rfl) (e_bin (x := .v (probesD ps)) (e_idx (e_var rfl) e_lit rfl) (e_prim (p := .tupOf) (o := .v (probesD (qs.map (shiftL t)))) (ea1 (e_comp (ei_seq (x := .v (probesD qs)) (e_idx (e_var rfl) e_lit rfl) rfl) hc)) rfl) (bes_add (t := t) (ps := ps) (qs := qs) (by omega) (by omega)))) (szR rfl)
variable (h1 : 1 ≤ t) (h2 : t ≤ 10) (hn : ps.length ≤ 16) (hp : ∀ p ∈ ps, OkP t p) (g1 : 1 ≤ u) (g2 : u ≤ 10) (gn : qs.length ≤ 16) (gp : ∀ p ∈ qs, OkP u p)
include h1 h2 hn hp g1 g2 gn gp
theorem beside_x1 (h : 10 < t + u) : callN (mkT dl lq) (n + 4) pu .beside [planD t ps, planD u qs] S = .exc ⟨.badPlan, [.int (-1)]⟩ S := by
  rw [call_beside]
  refine x_f (rs := .exc ⟨.badPlan, [.int (-1)]⟩ S) rfl (x_b (s_drop (e_callT rfl (ea1 (e_var rfl)) (need_plan_ok (by omega) (by omega) hn hp))) (co_nx (x_b (s_drop (e_callT rfl (ea1 (e_var rfl)) (need_plan_ok (by omega) (by omega) gn gp))) (co_nx (x_b (bes_set hn gn) (co_nx ?_)))))) rfl
  · refine x_b (x_sIte (u := true) ?_ (x_b (s_raise rfl (ea1 (e_bin e_lit e_lit rfl)) rfl) co_ex)) co_ex
    exists ea_nil
theorem beside_x2 (h : t + u ≤ 10) (hl : 16 < ps.length + qs.length) : callN (mkT dl lq) (n + 4) pu .beside [planD t ps, planD u qs] S = .exc ⟨.badPlan, [.int 16]⟩ S := by
  rw [call_beside]
  have q := need_plan_x16 (pu := true) (dl := dl) (lq := lq) (n := n) (S := S) (t := (t : Int) + u) (ps := besL t ps qs) (by omega) (by omega) (by unfold besL; simp; omega) (fun p hm => by have := bes_ok hp gp p hm; exact ⟨by have h3 := this.1; rwa [show ((t + u : Nat) : Int) = (t : Int) + u by omega] at h3, this.2⟩)
  refine x_f rfl (x_b (s_drop (e_callT rfl (ea1 (e_var rfl)) (need_plan_ok (by omega) (by omega) hn hp))) (co_nx (x_b (s_drop (e_callT rfl (ea1 (e_var rfl)) (need_plan_ok (by omega) (by omega) gn gp))) (co_nx (x_b (bes_set hn gn) (co_nx (x_b (x_sIte (u := false) ?_ b_nil) (co_nx (x_b (s_dropx (e_callx rfl (ea1 (e_var rfl)) q)) co_ex))))))))) rfl
  exists ea_nil
theorem beside_ok (h : t + u ≤ 10) (hl : ps.length + qs.length ≤ 16) : callN (mkT dl lq) (n + 4) pu .beside [planD t ps, planD u qs] S = .ok (.v (planD ((t : Int) + u) (besL t ps qs))) S := by
  rw [call_beside]
  have q := need_plan_ok (dl := dl) (lq := lq) (n := n) (pu := true) (S := S) (t := (t : Int) + u) (ps := besL t ps qs) (by omega) (by omega) (by unfold besL; simp; omega) (fun p hm => by have := bes_ok hp gp p hm; exact ⟨by have h3 := this.1; rwa [show ((t + u : Nat) : Int) = (t : Int) + u by omega] at h3, this.2⟩)
  refine x_f rfl (x_b (s_drop (e_callT rfl (ea1 (e_var rfl)) (need_plan_ok (by omega) (by omega) hn hp))) (co_nx (x_b (s_drop (e_callT rfl (ea1 (e_var rfl)) (need_plan_ok (by omega) (by omega) gn gp))) (co_nx (x_b (bes_set hn gn) (co_nx (x_b (x_sIte (u := false) ?_ b_nil) (co_nx (x_b (s_drop (e_callT rfl (ea1 (e_var rfl)) q)) (co_nx (x_b (s_ret (e_var rfl)) co_rt))))))))))) rfl
  exists ea_nil
end
/-! grids that are none -/
theorem grid_x1 {d e : D} (h : OutN 1 10 d) : callN (mkT dl lq) (n + 3) pu .grid [d, e] S = .exc ⟨.badCount, []⟩ S := by
  rw [call_grid]
  exact x_f rfl (x_b (s_dropx (e_callx rfl (ea3 (e_var rfl) e_lit e_lit) (need_count_x h))) co_ex) rfl
theorem grid_x2 {i : Int} {e : D} (h1 : 1 ≤ i) (h2 : i ≤ 10) (h : OutN 1 10 e) : callN (mkT dl lq) (n + 3) pu .grid [.int i, e] S = .exc ⟨.badCount, []⟩ S := by
  rw [call_grid]
  exact x_f rfl (x_b (s_drop (e_callT rfl (ea3 (e_var rfl) e_lit e_lit) (need_count_ok h1 h2))) (co_nx (x_b (s_dropx (e_callx rfl (ea3 (e_var rfl) e_lit e_lit) (need_count_x h))) co_ex))) rfl
end Pb
end

section
set_option Elab.async false
set_option linter.all false
set_option maxRecDepth 100000
set_option maxHeartbeats 1000000
/-! Trees: what is told apart by a probe, how a tree is walked. -/
namespace Pb
open PySem
variable {dl : FD} {lq : Nat → PySem.Addr → List (PySem.Addr × L2.HO) → Prop}
variable {n : Nat} {pu : Bool} {S : List SO} {ns : List Int}
local macro_rules
  | `(tactic| exists $es,*) => do
    let xs := es.getElems
    let mut hs ← `(tactic| fail)
    for x in xs.reverse do
      hs ← `(tactic| first | exact $x | ($hs:tactic))
    let mut cs ← `(tactic| fail)
    for x in xs.reverse do
      cs ← `(tactic| first | (refine gate4 $x ?_ ?_ <;> rfl) | ($cs:tactic))
    `(tactic| first
      | ((with_reducible apply e_var); rfl)
      | (with_reducible exact e_lit)
      | (with_reducible exact ea_nil)
      | ((with_reducible apply ea_cons) <;> exists $es,*)
      | ((with_reducible apply e_bin) <;> exists $es,*)
      | ((with_reducible apply e_cmp) <;> exists $es,*)
      | ((with_reducible apply e_idx) <;> exists $es,*)
      | ((with_reducible apply e_callT) <;> exists $es,*)
      | ((with_reducible apply e_prim) <;> exists $es,*)
      | ((with_reducible apply e_tup) <;> exists $es,*)
      | ((with_reducible apply e_lst) <;> exists $es,*)
      | ((with_reducible apply x_and) <;> exists $es,*)
      | ((with_reducible apply x_or) <;> exists $es,*)
      | ((with_reducible apply e_not) <;> exists $es,*)
      | ((with_reducible apply x_ite) <;> exists $es,*)
      | ((with_reducible apply x_chain) <;> exists $es,*)
      | ((with_reducible apply e_isN) <;> exists $es,*)
      | ((with_reducible apply e_notN) <;> exists $es,*)
      | ((with_reducible apply e_slc) <;> exists $es,*)
      | ((with_reducible apply e_sort) <;> exists $es,*)
      | ((with_reducible apply e_comp) <;> exists $es,*)
      | ((with_reducible apply e_rgT) <;> exists $es,*)
      | ((with_reducible apply e_rgL) <;> exists $es,*)
      | ((with_reducible apply e_bor); rfl)
      | ((with_reducible apply b_nilX); rfl)
      | ((with_reducible apply b_nilY) <;> exact rfl)
      | ((with_reducible apply x_bX) <;> exists $es,*)
      | ((with_reducible apply co_nx) <;> exists $es,*)
      | (with_reducible exact co_rt)
      | (with_reducible exact co_ex)
      | ((with_reducible apply gate_cont); (first | exact co_rt | exact co_ex))
      | ((with_reducible apply s_set) <;> exists $es,*)
      | ((with_reducible apply x_sIte) <;> exists $es,*)
      | ((with_reducible apply s_for) <;> exists $es,*)
      | ((with_reducible apply s_drop) <;> exists $es,*)
      | ((with_reducible apply s_ret) <;> exists $es,*)
      | ((with_reducible apply s_par2) <;> exists $es,*)
      | ((with_reducible apply s_unp) <;> exists $es,*)
      | ((with_reducible apply s_setO) <;> exists $es,*)
      | ((with_reducible apply s_app) <;> exists $es,*)
      | ((with_reducible apply s_ext) <;> exists $es,*)
      | ((with_reducible apply s_setI) <;> exists $es,*)
      | ((with_reducible apply s_retO) <;> exists $es,*)
      | ((with_reducible apply s_retL) <;> exists $es,*)
      | ((with_reducible apply s_raise) <;> exists $es,*)
      | ((with_reducible apply and_f); rfl)
      | ((with_reducible apply and_t) <;> exists $es,*)
      | ((with_reducible apply or_t); rfl)
      | ((with_reducible apply or_f) <;> exists $es,*)
      | ((with_reducible apply ite_f) <;> exists $es,*)
      | ((with_reducible apply ite_t) <;> exists $es,*)
      | ((with_reducible apply ch_f); rfl)
      | ((with_reducible apply ch_t) <;> exists $es,*)
      | ((with_reducible apply ei_rng) <;> exists $es,*)
      | ((with_reducible apply ei_seq) <;> exists $es,*)
      | ((with_reducible apply ei_zip) <;> exists $es,*)
      | ((with_reducible apply ei_enum) <;> exists $es,*)
      | ((with_reducible apply x_f) <;> exists $es,*)
      | ((with_reducible apply eo_some) <;> exists $es,*)
      | (with_reducible exact eo_none)
      | ((with_reducible apply gate_call); (first | with_reducible assumption | ($cs:tactic)
))
      | ((with_reducible apply gate_word); (first | ((with_reducible apply e_word) <;> exists $es,*) | ($hs:tactic)
))
      | ((with_reducible apply gate_wordL); (first | ($hs:tactic)
))
      | (with_reducible exact e_lam)
      | ((with_reducible apply gate_for); (first | with_reducible assumption | ($hs:tactic)
))
      | ((with_reducible apply gate_comp); (first | with_reducible assumption | ($hs:tactic)
))
      | ((with_reducible show cmpV .le _ _ = _); (first | (exact c_le_t (by omega)) | (exact c_le_f (by omega)) | (($hs:tactic)) | (with_reducible assumption) | (rfl)
))
      | ((with_reducible show cmpV .lt _ _ = _); (first | (exact c_lt_t (by omega)) | (exact c_lt_f (by omega)) | (($hs:tactic)) | (with_reducible assumption) | (rfl)
))
      | ((with_reducible show cmpV .gt _ _ = _); (first | (exact c_gt_t (by omega)) | (exact c_gt_f (by omega)) | (($hs:tactic)) | (with_reducible assumption) | (rfl)
))
      | ((with_reducible show cmpV .ge _ _ = _); (first | (exact c_ge_t (by omega)) | (exact c_ge_f (by omega)) | (($hs:tactic)) | (with_reducible assumption) | (rfl)
))
      | ((with_reducible show cmpV .eq _ _ = _); (first | (exact c_eqI_t (by omega)) | (exact c_eqI_f (by omega)) | (($hs:tactic)) | (with_reducible assumption) | (rfl)
))
      | ((with_reducible show cmpV .ne _ _ = _); (first | (exact c_neI_t (by omega)) | (exact c_neI_f (by omega)) | (($hs:tactic)) | (with_reducible assumption) | (rfl)
))
      | ((with_reducible show cmpV _ _ _ = _); (first | (($hs:tactic)) | (with_reducible assumption) | (rfl)
))
      | ((with_reducible show binV .mod _ _ = _); (first | (exact v_mod (by omega))
))
      | ((with_reducible show binV .fdiv _ _ = _); (first | (exact v_fdiv (by omega) (by omega)) | (($hs:tactic)) | (with_reducible assumption)
))
      | ((with_reducible show binV .mul _ _ = _); (first | (($hs:tactic)) | (with_reducible assumption) | (exact v_mulR rfl) | (exact v_mulL rfl) | (exact v_mulM (by omega) (by omega)) | (rfl)
))
      | ((with_reducible show binV _ _ _ = _); (first | (($hs:tactic)) | (with_reducible assumption) | (rfl)
))
      | ((with_reducible show primV _ _ = _); (first | (($hs:tactic)) | (with_reducible assumption) | (rfl) | (exact len_lot _) | (exact len_probes _)
))
      | ((with_reducible show rngV _ = _); (first | (($hs:tactic)) | (with_reducible assumption) | (exact rngN (by omega)) | (rfl)
))
      | ((with_reducible show idxV _ _ _ = _); (first | (($hs:tactic)) | (with_reducible assumption) | (rfl)
))
      | ((with_reducible show seqV _ = _); (first | (($hs:tactic)) | (with_reducible assumption) | (rfl)
))
      | ((with_reducible show zip2V _ _ = _); (first | (($hs:tactic)) | (with_reducible assumption) | (rfl)
))
      | ((with_reducible show slcV _ _ _ = _); (first | (($hs:tactic)) | (with_reducible assumption) | (rfl)
))
      | ((with_reducible show sortV _ _ = _); (first | (($hs:tactic)) | (with_reducible assumption) | (rfl)
))
      | ((with_reducible show bindTg _ _ _ = _); (first | (($hs:tactic)) | (with_reducible assumption) | (rfl)
))
      | ((with_reducible show rng3V _ = _); (first | (($hs:tactic)) | (with_reducible assumption) | (rfl)
))
      | ((with_reducible show setV _ _ _ _ = _); (first | (($hs:tactic)) | (with_reducible assumption) | (rfl)
))
      | ((with_reducible show okX _ _ = _); (first | (($hs:tactic)) | (with_reducible assumption) | (rfl)
))
      | ((with_reducible show fin _ = _); (first | (($hs:tactic)) | (with_reducible assumption) | (rfl)
))
      | ((with_reducible show _ ≤ sizeLine); (first | (exact szR rfl) | (exact sz (by simp <;> omega))
))
      | ((with_reducible show _ < sizeLine); (first | (exact szR rfl) | (exact sz (by simp <;> omega))
))
      | ((with_reducible apply e_callbT) <;> exists $es,*)
      | ((with_reducible show (_ : Bool) = _); rfl)
      | ((with_reducible show (_ : CB) = _); rfl)
      | ((with_reducible show (_ : Nat) = _); rfl)
      | ((with_reducible show (_ : Option Sl) = _); rfl)
      | ((with_reducible show (_ : D) = _); rfl)
      | ((with_reducible show (_ : List D) = _); rfl)
      | ((with_reducible show (_ : Fn) = _); rfl)
      | ((with_reducible show (_ : Option Rho) = _); rfl)

      )
def meetB (p l : List Int) : Bool := p.any fun x => decide (x ∈ l)
def noL (p : List Int) (ls : List (List Int)) : List (List Int) := ls.filter fun l => !meetB p l
def yesL (p : List Int) (ls : List (List Int)) : List (List Int) := ls.filter fun l => meetB p l
theorem c_ans0 (p l : List Int) : cmpV .eq (.int (ans1 l p)) (.int 0) = some (!meetB p l) := by
  rw [c_eq (shI _ _) (shI _ _), eqvI]
  unfold ans1 meetB
  cases p.any fun x => decide (x ∈ l) <;> rfl
theorem c_ans1 (p l : List Int) : cmpV .eq (.int (ans1 l p)) (.int 1) = some (meetB p l) := by
  rw [c_eq (shI _ _) (shI _ _), eqvI]
  unfold ans1 meetB
  cases p.any fun x => decide (x ∈ l) <;> rfl
theorem parted_ok (ls : List (List Int)) (p : List Int) : callN (mkT dl lq) (n + 2) pu .parted [probesD ls, lotD p] S = .ok (.v (.tuple [probesD (noL p ls), probesD (yesL p ls)])) S := by
  rw [call_parted]
  have h0 : ∀ r : Rho, r[1]? = some (.v (lotD p)) → (∀ d, bindTg (.var 3) d (wipeR r [3]) = some ((r.set 3 .un).set 3 (.v d))) → compGo (cF (lk (mkT dl lq) (n + 1) true) (.var 3) (.var 3) (.cons (.cmp .eq (.call .answer_of (.cons (.var 1) (.cons (.var 3) .nil))) (.lit (.int 0))) .nil) [3] [.v (probesD ls), .v (lotD p), .un, .un]) (ls.map lotD) S = .ok ((noL p ls).map lotD) S := fun _ _ _ =>
    comp_mapE (enc := lotD) (g := fun l => if (!meetB p l) = true then some (lotD l) else none) (fun l hl => cf_if rfl (e_cmp (e_callT rfl (ea2 (e_var rfl) (e_var rfl)) (answer_of_ok p l)) e_lit (c_ans0 p l)) (fun _ => e_var rfl) rfl) (fm_filter _ _ _)
  have h1 : compGo (cF (lk (mkT dl lq) (n + 1) true) (.var 3) (.var 3) (.cons (.cmp .eq (.call .answer_of (.cons (.var 1) (.cons (.var 3) .nil))) (.lit (.int 1))) .nil) [3] [.v (probesD ls), .v (lotD p), .v (probesD (noL p ls)), .un]) (ls.map lotD) S = .ok ((yesL p ls).map lotD) S :=
    comp_mapE (enc := lotD) (g := fun l => if (meetB p l) = true then some (lotD l) else none) (fun l hl => cf_if rfl (e_cmp (e_callT rfl (ea2 (e_var rfl) (e_var rfl)) (answer_of_ok p l)) e_lit (c_ans1 p l)) (fun _ => e_var rfl) rfl) (fm_filter _ _ _)
  have h0 := h0 [.v (probesD ls), .v (lotD p), .un, .un] rfl (fun _ => rfl)
  exact f_rt rfl (b_nx (s_set (e_prim (p := .tupOf) (o := .v (probesD (noL p ls))) (ea1 (e_comp (ei_seq (e_var rfl) rfl) h0)) rfl)) (b_rt (s_ret (e_tup rfl (ea2 (e_var rfl) (e_prim (p := .tupOf) (o := .v (probesD (yesL p ls))) (ea1 (e_comp (ei_seq (e_var rfl) rfl) h1)) rfl)) (szR rfl)))))
/-! words of trees -/
abbrev sLot : Str := "lot"
abbrev sLots : Str := "lots"
abbrev sPro : Str := "probe"
theorem ok_lot : PyData.strOk sLot = true := by kernel_rfl
theorem ok_lots : PyData.strOk sLots = true := by kernel_rfl
theorem ok_pro : PyData.strOk sPro = true := by kernel_rfl
theorem c_ll : cmpV .eq (.str sLot) (.str sLot) = some true := by kernel_rfl
theorem c_pl : cmpV .eq (.str sPro) (.str sLot) = some false := by kernel_rfl
theorem c_sl : cmpV .eq (.str sLots) (.str sLot) = some false := by kernel_rfl
theorem c_pp : cmpV .ne (.str sPro) (.str sPro) = some false := by kernel_rfl
theorem c_sp : cmpV .ne (.str sLots) (.str sPro) = some true := by kernel_rfl
/-! trees -/
def pairT (p : List Int × Nat) : D := .tuple [lotD p.1, .int p.2]
inductive Tr (t : Nat) : List (List Int) → D → Nat → List (List Int × Nat) → Prop where
  | leaf (l : List Int) (w : Nat) : Tr t [l] (.tuple [.str sLot, lotD l]) w [(l, w)]
  | probe {p : List Int} {ls : List (List Int)} {a b : D} {w : Nat} {da db : List (List Int × Nat)} (hp : Rise t p) (hl : p.length ≤ 1000) (h0 : noL p ls ≠ []) (h1 : yesL p ls ≠ []) (ha : Tr t (noL p ls) a (w + 1) da) (hb : Tr t (yesL p ls) b (w + 1) db) : Tr t ls (.tuple [.str sPro, lotD p, a, b]) w (da ++ db)
theorem two_len (f : List Int → Bool) (ls : List (List Int)) : (ls.filter fun l => !f l).length + (ls.filter f).length = ls.length := by
  induction ls with
  | nil => rfl
  | cons l ls ih => cases h : f l <;> simp [List.filter_cons, h] <;> omega
theorem ny_len (p : List Int) (ls : List (List Int)) : (noL p ls).length + (yesL p ls).length = ls.length := two_len (meetB p) ls
variable {t : Nat} {ls : List (List Int)} {d : D} {w : Nat} {due : List (List Int × Nat)}
theorem Tr.len (h : Tr t ls d w due) : due.length = ls.length := by
  induction h with
  | leaf => rfl
  | @probe p ls a b w da db hp hl h0 h1 ha hb iha ihb =>
    have := ny_len p ls
    rw [List.length_append, iha, ihb]
    exact this
theorem Tr.pos (h : Tr t ls d w due) : 1 ≤ ls.length := by
  cases h with
  | leaf => exact Nat.le_refl _
  | @probe p ls a b w da db hp hl h0 h1 ha hb =>
    have := ny_len p ls
    have := List.length_pos_iff.mpr h0
    omega
theorem Tr.alk (h : Tr t ls d w due) (hs : ∀ l ∈ ls, l.length ≤ 1000) : alkB (ls.length + 2) d = true := by
  induction h with
  | leaf l w =>
    refine alk_tup (k := 2) (by simp) fun x hx => ?_
    rcases List.mem_cons.mp hx with rfl | hx
    · exact ok_lot
    · rw [List.mem_singleton.mp hx]
      exact alk_mono _ _ (alk_lot l (by have := hs l (by simp); omega))
  | @probe p ls a b w da db hp hl h0 h1 ha hb iha ihb =>
    have e := ny_len p ls
    have p0 := List.length_pos_iff.mpr h0
    have p1 := List.length_pos_iff.mpr h1
    have qa := alk_add (ls.length - 1 - (noL p ls).length) _ _ (iha fun l hl => hs l (List.mem_filter.mp hl).1)
    have qb := alk_add (ls.length - 1 - (yesL p ls).length) _ _ (ihb fun l hl => hs l (List.mem_filter.mp hl).1)
    rw [show (noL p ls).length + 2 + (ls.length - 1 - (noL p ls).length) = ls.length + 1 by omega] at qa
    rw [show (yesL p ls).length + 2 + (ls.length - 1 - (yesL p ls).length) = ls.length + 1 by omega] at qb
    refine alk_tup (k := ls.length + 1) (by simp) fun x hx => ?_
    simp only [List.mem_cons, List.not_mem_nil, or_false] at hx
    rcases hx with rfl | rfl | rfl | rfl
    · exact ok_pro
    · have := alk_add ls.length 1 _ (alk_lot p (by omega))
      rwa [Nat.add_comm] at this
    · exact qa
    · exact qb
theorem c_nilF {x : D} {xs : List D} {k : Nat} (hk : k ≤ 60) (h : alkB k (.tuple (x :: xs)) = true) : cmpV .eq (.tuple (x :: xs)) (.tuple []) = some false := by
  have q := (alk_sh 60 _ (by have := alk_add (60 - k) k _ h; rwa [show k + (60 - k) = 60 by omega] at this)).1
  rw [c_eq q rfl]
  rfl
theorem shLt (l : List (List Int)) : D.sh 60 (probesD l) = true := by
  show (l.map lotD).all (D.sh 59) = true
  simp [shL]
theorem c_lots (a b : List (List Int)) : cmpV .eq (probesD a) (probesD b) = some (decide (a = b)) := by
  rw [c_eq (shLt a) (shLt b)]
  show some (D.eqvs (a.map lotD) (b.map lotD)) = _
  rw [eqvsL]
theorem c_lotsN (a b : List (List Int)) : cmpV .ne (probesD a) (probesD b) = some (!decide (a = b)) := by
  rw [c_ne (shLt a) (shLt b)]
  show some (!D.eqvs (a.map lotD) (b.map lotD)) = _
  rw [eqvsL]
theorem add_own (a b : List (List Int × Nat)) (h : a.length + b.length ≤ 1000000) : binV .add (.list (a.map pairT)) (.list (b.map pairT)) = some (.own ((a ++ b).map pairT)) := by
  show (if (a.map pairT).length + (b.map pairT).length ≤ sizeLine then _ else none) = _
  rw [if_pos (sz (by simp; omega)), List.map_append]
theorem add_way (w : List Int) (i : Int) (h : w.length ≤ 1000) : binV .add (lotD w) (.tuple [.int i]) = some (.v (lotD (w ++ [i]))) := by
  show (if (w.map D.int).length + [D.int i].length ≤ sizeLine then _ else none) = _
  rw [if_pos (sz (by simp; omega))]
  show some (Out.v (.tuple (w.map D.int ++ [.int i]))) = some (Out.v (.tuple ((w ++ [i]).map D.int)))
  rw [List.map_append]
  rfl
end Pb
end

section
set_option Elab.async false
set_option linter.all false
set_option maxRecDepth 100000
set_option maxHeartbeats 1000000
/-! Trees walked, trees refused. -/
namespace Pb
open PySem
variable {dl : FD} {lq : Nat → PySem.Addr → List (PySem.Addr × L2.HO) → Prop}
variable {n : Nat} {pu : Bool} {S : List SO} {ns : List Int}
variable {t : Nat} {ls : List (List Int)} {d : D} {w : Nat} {due : List (List Int × Nat)}
local macro_rules
  | `(tactic| exists $es,*) => do
    let xs := es.getElems
    let mut hs ← `(tactic| fail)
    for x in xs.reverse do
      hs ← `(tactic| first | exact $x | ($hs:tactic))
    let mut cs ← `(tactic| fail)
    for x in xs.reverse do
      cs ← `(tactic| first | (refine gate4 $x ?_ ?_ <;> rfl) | ($cs:tactic))
    `(tactic| first
      | ((with_reducible apply e_var); rfl)
      | (with_reducible exact e_lit)
      | (with_reducible exact ea_nil)
      | ((with_reducible apply ea_cons) <;> exists $es,*)
      | ((with_reducible apply e_bin) <;> exists $es,*)
      | ((with_reducible apply e_cmp) <;> exists $es,*)
      | ((with_reducible apply e_idx) <;> exists $es,*)
      | ((with_reducible apply e_callT) <;> exists $es,*)
      | ((with_reducible apply e_prim) <;> exists $es,*)
      | ((with_reducible apply e_tup) <;> exists $es,*)
      | ((with_reducible apply e_lst) <;> exists $es,*)
      | ((with_reducible apply x_and) <;> exists $es,*)
      | ((with_reducible apply x_or) <;> exists $es,*)
      | ((with_reducible apply e_not) <;> exists $es,*)
      | ((with_reducible apply x_ite) <;> exists $es,*)
      | ((with_reducible apply x_chain) <;> exists $es,*)
      | ((with_reducible apply e_isN) <;> exists $es,*)
      | ((with_reducible apply e_notN) <;> exists $es,*)
      | ((with_reducible apply e_slc) <;> exists $es,*)
      | ((with_reducible apply e_sort) <;> exists $es,*)
      | ((with_reducible apply e_comp) <;> exists $es,*)
      | ((with_reducible apply e_rgT) <;> exists $es,*)
      | ((with_reducible apply e_rgL) <;> exists $es,*)
      | ((with_reducible apply e_bor); rfl)
      | ((with_reducible apply b_nilX); rfl)
      | ((with_reducible apply b_nilY) <;> exact rfl)
      | ((with_reducible apply x_bX) <;> exists $es,*)
      | ((with_reducible apply co_nx) <;> exists $es,*)
      | (with_reducible exact co_rt)
      | (with_reducible exact co_ex)
      | ((with_reducible apply gate_cont); (first | exact co_rt | exact co_ex))
      | ((with_reducible apply s_set) <;> exists $es,*)
      | ((with_reducible apply x_sIte) <;> exists $es,*)
      | ((with_reducible apply s_for) <;> exists $es,*)
      | ((with_reducible apply s_drop) <;> exists $es,*)
      | ((with_reducible apply s_ret) <;> exists $es,*)
      | ((with_reducible apply s_par2) <;> exists $es,*)
      | ((with_reducible apply s_unp) <;> exists $es,*)
      | ((with_reducible apply s_setO) <;> exists $es,*)
      | ((with_reducible apply s_app) <;> exists $es,*)
      | ((with_reducible apply s_ext) <;> exists $es,*)
      | ((with_reducible apply s_setI) <;> exists $es,*)
      | ((with_reducible apply s_retO) <;> exists $es,*)
      | ((with_reducible apply s_retL) <;> exists $es,*)
      | ((with_reducible apply s_raise) <;> exists $es,*)
      | ((with_reducible apply and_f); rfl)
      | ((with_reducible apply and_t) <;> exists $es,*)
      | ((with_reducible apply or_t); rfl)
      | ((with_reducible apply or_f) <;> exists $es,*)
      | ((with_reducible apply ite_f) <;> exists $es,*)
      | ((with_reducible apply ite_t) <;> exists $es,*)
      | ((with_reducible apply ch_f); rfl)
      | ((with_reducible apply ch_t) <;> exists $es,*)
      | ((with_reducible apply ei_rng) <;> exists $es,*)
      | ((with_reducible apply ei_seq) <;> exists $es,*)
      | ((with_reducible apply ei_zip) <;> exists $es,*)
      | ((with_reducible apply ei_enum) <;> exists $es,*)
      | ((with_reducible apply x_f) <;> exists $es,*)
      | ((with_reducible apply eo_some) <;> exists $es,*)
      | (with_reducible exact eo_none)
      | ((with_reducible apply gate_call); (first | with_reducible assumption | ($cs:tactic)
))
      | ((with_reducible apply gate_word); (first | ((with_reducible apply e_word) <;> exists $es,*) | ($hs:tactic)
))
      | ((with_reducible apply gate_wordL); (first | ($hs:tactic)
))
      | (with_reducible exact e_lam)
      | ((with_reducible apply gate_for); (first | with_reducible assumption | ($hs:tactic)
))
      | ((with_reducible apply gate_comp); (first | with_reducible assumption | ($hs:tactic)
))
      | ((with_reducible show cmpV .le _ _ = _); (first | (exact c_le_t (by omega)) | (exact c_le_f (by omega)) | (($hs:tactic)) | (with_reducible assumption) | (rfl)
))
      | ((with_reducible show cmpV .lt _ _ = _); (first | (exact c_lt_t (by omega)) | (exact c_lt_f (by omega)) | (($hs:tactic)) | (with_reducible assumption) | (rfl)
))
      | ((with_reducible show cmpV .gt _ _ = _); (first | (exact c_gt_t (by omega)) | (exact c_gt_f (by omega)) | (($hs:tactic)) | (with_reducible assumption) | (rfl)
))
      | ((with_reducible show cmpV .ge _ _ = _); (first | (exact c_ge_t (by omega)) | (exact c_ge_f (by omega)) | (($hs:tactic)) | (with_reducible assumption) | (rfl)
))
      | ((with_reducible show cmpV .eq _ _ = _); (first | (exact c_eqI_t (by omega)) | (exact c_eqI_f (by omega)) | (($hs:tactic)) | (with_reducible assumption) | (rfl)
))
      | ((with_reducible show cmpV .ne _ _ = _); (first | (exact c_neI_t (by omega)) | (exact c_neI_f (by omega)) | (($hs:tactic)) | (with_reducible assumption) | (rfl)
))
      | ((with_reducible show cmpV _ _ _ = _); (first | (($hs:tactic)) | (with_reducible assumption) | (rfl)
))
      | ((with_reducible show binV .mod _ _ = _); (first | (exact v_mod (by omega))
))
      | ((with_reducible show binV .fdiv _ _ = _); (first | (exact v_fdiv (by omega) (by omega)) | (($hs:tactic)) | (with_reducible assumption)
))
      | ((with_reducible show binV .mul _ _ = _); (first | (($hs:tactic)) | (with_reducible assumption) | (exact v_mulR rfl) | (exact v_mulL rfl) | (exact v_mulM (by omega) (by omega)) | (rfl)
))
      | ((with_reducible show binV _ _ _ = _); (first | (($hs:tactic)) | (with_reducible assumption) | (rfl)
))
      | ((with_reducible show primV _ _ = _); (first | (($hs:tactic)) | (with_reducible assumption) | (rfl) | (exact len_lot _) | (exact len_probes _)
))
      | ((with_reducible show rngV _ = _); (first | (($hs:tactic)) | (with_reducible assumption) | (exact rngN (by omega)) | (rfl)
))
      | ((with_reducible show idxV _ _ _ = _); (first | (($hs:tactic)) | (with_reducible assumption) | (rfl)
))
      | ((with_reducible show seqV _ = _); (first | (($hs:tactic)) | (with_reducible assumption) | (rfl)
))
      | ((with_reducible show zip2V _ _ = _); (first | (($hs:tactic)) | (with_reducible assumption) | (rfl)
))
      | ((with_reducible show slcV _ _ _ = _); (first | (($hs:tactic)) | (with_reducible assumption) | (rfl)
))
      | ((with_reducible show sortV _ _ = _); (first | (($hs:tactic)) | (with_reducible assumption) | (rfl)
))
      | ((with_reducible show bindTg _ _ _ = _); (first | (($hs:tactic)) | (with_reducible assumption) | (rfl)
))
      | ((with_reducible show rng3V _ = _); (first | (($hs:tactic)) | (with_reducible assumption) | (rfl)
))
      | ((with_reducible show setV _ _ _ _ = _); (first | (($hs:tactic)) | (with_reducible assumption) | (rfl)
))
      | ((with_reducible show okX _ _ = _); (first | (($hs:tactic)) | (with_reducible assumption) | (rfl)
))
      | ((with_reducible show fin _ = _); (first | (($hs:tactic)) | (with_reducible assumption) | (rfl)
))
      | ((with_reducible show _ ≤ sizeLine); (first | (exact szR rfl) | (exact sz (by simp <;> omega))
))
      | ((with_reducible show _ < sizeLine); (first | (exact szR rfl) | (exact sz (by simp <;> omega))
))
      | ((with_reducible apply e_callbT) <;> exists $es,*)
      | ((with_reducible show (_ : Bool) = _); rfl)
      | ((with_reducible show (_ : CB) = _); rfl)
      | ((with_reducible show (_ : Nat) = _); rfl)
      | ((with_reducible show (_ : Option Sl) = _); rfl)
      | ((with_reducible show (_ : D) = _); rfl)
      | ((with_reducible show (_ : List D) = _); rfl)
      | ((with_reducible show (_ : Fn) = _); rfl)
      | ((with_reducible show (_ : Option Rho) = _); rfl)

      )
theorem walked_leaf (l way : List Int) (t : Int) : callN (mkT dl lq) (n + 1) pu .walked [.int t, probesD [l], .tuple [.str sLot, lotD l], lotD way] S = .ok (.own ([(l, way.length)].map pairT)) S := by
  rw [call_walked]
  have c1 : cmpV .eq (.tuple [.str sLot, lotD l]) (.tuple []) = some false := by
    rw [c_eq (by
      show (PyData.strOk sLot && ((l.map D.int).all (D.sh 58) && true)) = true
      rw [ok_lot]
      simp [shI]) rfl]
    rfl
  have c2 : cmpV .ne (probesD [l]) (.tuple [lotD l]) = some false := (c_lotsN [l] [l]).trans (by simp)
  exact f_rt rfl (b_nx (s_ite_f (e_or_f (e_not (u := true) (e_prim (ea1 (e_var rfl)) rfl)) (e_or_f (e_cmp (e_var rfl) (e_tup rfl ea_nil (szR rfl)) c1) (e_not (u := true) (e_prim (ea1 (e_idx (e_var rfl) e_lit rfl)) rfl)))) b_nil)
    (b_rt (s_ite_t (e_cmp (e_idx (e_var rfl) e_lit rfl) e_lit c_ll)
      (b_nx (s_ite_f (e_or_f (e_cmp (e_prim (ea1 (e_var rfl)) rfl) e_lit (u := false) rfl) (e_cmp (e_var rfl) (e_tup rfl (ea1 (e_idx (e_var rfl) e_lit rfl)) (szR rfl)) c2)) b_nil)
      (b_rt (s_ret (e_lst rfl (ea1 (e_tup rfl (ea2 (e_idx (e_var rfl) e_lit rfl) (e_prim (ea1 (e_var rfl)) (len_lot way))) (szR rfl))) (szR rfl))))))))
/-- ahead of the parting: a probe that is one -/
theorem walked_pre {t : Int} {p way : List Int} {a b : D} {k : Nat} {res : R Fl} (hk : k ≤ 60) (hp : Rise t p) (hl : p.length ≤ 1000) (hd : alkB k (.tuple [.str sPro, lotD p, a, b]) = true)
    (h : exB (lk (mkT dl lq) (n + 2) true) (dropB d_walked.body 4) [.v (.int t), .v (probesD ls), .v (.tuple [.str sPro, lotD p, a, b]), .v (lotD way), .v (probesD (noL p ls)), .v (probesD (yesL p ls))] S = res) : exB (lk (mkT dl lq) (n + 2) true) d_walked.body [.v (.int t), .v (probesD ls), .v (.tuple [.str sPro, lotD p, a, b]), .v (lotD way), .un, .un] S = res :=
  b_nx (s_ite_f (e_or_f (e_not (u := true) (e_prim (ea1 (e_var rfl)) rfl)) (e_or_f (e_cmp (e_var rfl) (e_tup rfl ea_nil (szR rfl)) (c_nilF hk hd)) (e_not (u := true) (e_prim (ea1 (e_idx (e_var rfl) e_lit rfl)) rfl)))) b_nil)
    (b_nx (s_ite_f (e_cmp (e_idx (e_var rfl) e_lit rfl) e_lit c_pl) b_nil)
    (b_nx (s_ite_f (e_or_f (e_cmp (e_idx (e_var rfl) e_lit rfl) e_lit c_pp) (e_or_f (e_cmp (e_prim (ea1 (e_var rfl)) rfl) e_lit (u := false) rfl) (e_not (u := true) (e_callT rfl (ea2 (e_idx (e_var rfl) e_lit rfl) (e_var rfl)) (is_lot_ok hl hp))))) b_nil)
    (b_nx (s_unp (e_callT rfl (ea2 (e_var rfl) (e_idx (e_var rfl) e_lit rfl)) (parted_ok ls p)) rfl) h)))
theorem c_some {x : List (List Int)} (h : x ≠ []) : cmpV .eq (probesD x) (.tuple []) = some false := (c_lots x []).trans (by rw [decide_eq_false h])
theorem walked_ok (h : Tr t ls d w due) : ∀ (k n : Nat) (pu : Bool) (way : List Int), ls.length ≤ k → k ≤ 50 → way.length = w → w + k ≤ 1000 → (∀ l ∈ ls, l.length ≤ 1000) → callN (mkT dl lq) (n + k + 3) pu .walked [.int t, probesD ls, d, lotD way] S = .ok (.own (due.map pairT)) S := by
  induction h with
  | leaf l w =>
    intro k n pu way hk _ hw _ hs
    subst hw
    exact walked_leaf (n := n + k + 2) l way t
  | @probe p ls a b w da db hp hl h0 h1 ha hb iha ihb =>
    intro k n pu way hk hk2 hw hwk hs
    have e := ny_len p ls
    have p0 := List.length_pos_iff.mpr h0
    have p1 := List.length_pos_iff.mpr h1
    obtain ⟨k, rfl⟩ : ∃ j, k = j + 1 := ⟨k - 1, by omega⟩
    have hd := (Tr.probe hp hl h0 h1 ha hb).alk hs
    have qa := iha k n true (way ++ [0]) (by omega) (by omega) (by simp [hw]) (by omega) fun l hl => hs l (List.mem_filter.mp hl).1
    have qb := ihb k n true (way ++ [1]) (by omega) (by omega) (by simp [hw]) (by omega) fun l hl => hs l (List.mem_filter.mp hl).1
    have la := ha.len
    have lb := hb.len
    rw [show n + (k + 1) + 3 = (n + k + 3) + 1 by omega, call_walked]
    refine f_rt rfl (walked_pre (n := n + k + 1) (k := ls.length + 2) (by omega) hp hl hd ?_)
    exact b_nx (s_ite_f (e_or_f (e_cmp (e_var rfl) (e_tup rfl ea_nil (szR rfl)) (c_some h0)) (e_cmp (e_var rfl) (e_tup rfl ea_nil (szR rfl)) (c_some h1))) b_nil)
      (b_rt (s_ret (e_bin (e_callT rfl (ea4 (e_var rfl) (e_var rfl) (e_idx (e_var rfl) e_lit rfl) (e_bin (e_var rfl) (e_tup rfl (ea1 e_lit) (szR rfl)) (add_way way 0 (by omega)))) qa)
        (e_callT rfl (ea4 (e_var rfl) (e_var rfl) (e_idx (e_var rfl) e_lit rfl) (e_bin (e_var rfl) (e_tup rfl (ea1 e_lit) (szR rfl)) (add_way way 1 (by omega)))) qb) (add_own da db (by omega)))))
/-- a tree that is none: what is told -/
def Bd (dl : FD) (lq : Nat → PySem.Addr → List (PySem.Addr × L2.HO) → Prop) (t : Nat) (ls : List (List Int)) (k : Nat) (d : D) (way there : List Int) : Prop := ∀ n pu S, callN (mkT dl lq) (n + k + 3) pu .walked [.int t, probesD ls, d, lotD way] S = .exc ⟨.badTree, [lotD there]⟩ S
section
variable {L : Lk} {e : CE} {as : CA} {ds : List D} {r : Rho} {S S1 : List SO} {x : Exn} {op : Bop} {a b : CE} {o : Out} {i : Nat}
theorem e_binx1 (h : ev L a r S = .exc x S1) : ev L (.bin op a b) r S = .exc x S1 := rx h rfl
theorem e_binx2 (h : ev L a r S = .ok o S) (h2 : ev L b r S = .exc x S1) : ev L (.bin op a b) r S = .exc x S1 := rb h (rx h2 rfl)
end
theorem bd_left {p way there : List Int} {a b : D} {k : Nat} (hk : k ≤ 50) (hk2 : (noL p ls).length ≤ k) (hw : way.length ≤ 900) (hp : Rise t p) (hl : p.length ≤ 1000) (h0 : noL p ls ≠ []) (h1 : yesL p ls ≠ []) (hd : alkB 60 (.tuple [.str sPro, lotD p, a, b]) = true) (h : Bd dl lq t (noL p ls) k a (way ++ [0]) there) : Bd dl lq t ls (k + 1) (.tuple [.str sPro, lotD p, a, b]) way there := fun n pu S => by
  rw [show n + (k + 1) + 3 = (n + k + 3) + 1 by omega, call_walked]
  refine x_f (rs := .exc ⟨.badTree, [lotD there]⟩ S) rfl (walked_pre (n := n + k + 1) (k := 60) (by omega) hp hl hd ?_) rfl
  exact b_nx (s_ite_f (e_or_f (e_cmp (e_var rfl) (e_tup rfl ea_nil (szR rfl)) (c_some h0)) (e_cmp (e_var rfl) (e_tup rfl ea_nil (szR rfl)) (c_some h1))) b_nil)
      (x_b (s_retx (e_binx1 (e_callx rfl (ea4 (e_var rfl) (e_var rfl) (e_idx (e_var rfl) e_lit rfl) (e_bin (e_var rfl) (e_tup rfl (ea1 e_lit) (szR rfl)) (add_way way 0 (by omega)))) (h n true S)))) co_ex)
theorem bd_right {p way there : List Int} {a b : D} {k : Nat} {da : List (List Int × Nat)} (hk : k ≤ 50) (hk2 : (noL p ls).length ≤ k) (hw : way.length ≤ 900) (hp : Rise t p) (hl : p.length ≤ 1000) (h0 : noL p ls ≠ []) (h1 : yesL p ls ≠ []) (hd : alkB 60 (.tuple [.str sPro, lotD p, a, b]) = true) (hs : ∀ l ∈ ls, l.length ≤ 1000) (ha : Tr t (noL p ls) a (way.length + 1) da) (h : Bd dl lq t (yesL p ls) k b (way ++ [1]) there) : Bd dl lq t ls (k + 1) (.tuple [.str sPro, lotD p, a, b]) way there := fun n pu S => by
  rw [show n + (k + 1) + 3 = (n + k + 3) + 1 by omega, call_walked]
  have qa := walked_ok (dl := dl) (lq := lq) (S := S) ha k n true (way ++ [0]) hk2 hk (by simp) (by omega) fun l hl => hs l (List.mem_filter.mp hl).1
  refine x_f (rs := .exc ⟨.badTree, [lotD there]⟩ S) rfl (walked_pre (n := n + k + 1) (k := 60) (by omega) hp hl hd ?_) rfl
  exact b_nx (s_ite_f (e_or_f (e_cmp (e_var rfl) (e_tup rfl ea_nil (szR rfl)) (c_some h0)) (e_cmp (e_var rfl) (e_tup rfl ea_nil (szR rfl)) (c_some h1))) b_nil)
      (x_b (s_retx (e_binx2 (e_callT rfl (ea4 (e_var rfl) (e_var rfl) (e_idx (e_var rfl) e_lit rfl) (e_bin (e_var rfl) (e_tup rfl (ea1 e_lit) (szR rfl)) (add_way way 0 (by omega)))) qa) (e_callx rfl (ea4 (e_var rfl) (e_var rfl) (e_idx (e_var rfl) e_lit rfl) (e_bin (e_var rfl) (e_tup rfl (ea1 e_lit) (szR rfl)) (add_way way 1 (by omega)))) (h n true S)))) co_ex)
end Pb
end

section
set_option Elab.async false
set_option linter.all false
set_option maxRecDepth 100000
set_option maxHeartbeats 1000000
/-! Trees that are none. -/
namespace Pb
open PySem
variable {dl : FD} {lq : Nat → PySem.Addr → List (PySem.Addr × L2.HO) → Prop}
variable {n : Nat} {pu : Bool} {S : List SO} {ns : List Int}
variable {t : Nat} {ls : List (List Int)} {d : D} {w : Nat} {k : Nat} {way : List Int}
theorem ite_raise {L : Lk} {c : CE} {bl2 : CB} {r : Rho} {S : List SO} {w : D} (hc : ev L c r S = .ok (.v (.bool true)) S) (h3 : r[3]? = some (.v w)) : exS L (.ite c (.cons (.raise .badTree (.cons (.var 3) .nil)) .nil) bl2) r S = .exc ⟨.badTree, [w]⟩ S := x_sIte (u := true) hc (x_b (s_raise rfl (ea1 (e_var h3)) rfl) co_ex)
theorem ix0 {x : D} {xs : List D} : idxV S (.tuple (x :: xs)) (.int 0) = some x := (atI_nat (x :: xs) 0).trans rfl
theorem bd_kind (h : primV (.isI .tuple) [d] = some (.v (.bool false))) : Bd dl lq t ls k d way way := fun n pu S => by
  rw [call_walked]
  exact x_f (rs := .exc ⟨.badTree, [lotD way]⟩ S) rfl (x_b (ite_raise (e_or_t (e_not (u := false) (e_prim (ea1 (e_var rfl)) h))) rfl) co_ex) rfl
theorem bd_nil : Bd dl lq t ls k (.tuple []) way way := fun n pu S => by
  rw [call_walked]
  exact x_f (rs := .exc ⟨.badTree, [lotD way]⟩ S) rfl (x_b (ite_raise (e_or_f (e_not (u := true) (e_prim (ea1 (e_var rfl)) rfl)) (e_or_t (e_cmp (u := true) (e_var rfl) (e_tup rfl ea_nil (szR rfl)) rfl))) rfl) co_ex) rfl
theorem bd_head {x : D} {xs : List D} (hd : alkB 60 (.tuple (x :: xs)) = true) (h : primV (.isI .str) [x] = some (.v (.bool false))) : Bd dl lq t ls k (.tuple (x :: xs)) way way := fun n pu S => by
  rw [call_walked]
  exact x_f (rs := .exc ⟨.badTree, [lotD way]⟩ S) rfl (x_b (ite_raise (e_or_f (e_not (u := true) (e_prim (ea1 (e_var rfl)) rfl)) (e_or_f (e_cmp (e_var rfl) (e_tup rfl ea_nil (szR rfl)) (c_nilF (by omega) hd)) (e_not (u := false) (e_prim (ea1 (e_idx (e_var rfl) e_lit ix0)) h)))) rfl) co_ex) rfl
theorem bd_first {T : Tb} {m : Nat} {x : Str} {xs : List D} {c1 c2 c4 c5 : Sl} {res : R Fl} {bl : CB} (hd : alkB 60 (.tuple (.str x :: xs)) = true) (h : exB (lk T m true) bl [c1, c2, .v (.tuple (.str x :: xs)), .v (lotD way), c4, c5] S = res) : exB (lk T m true) (.cons (nthB d_walked.body 0) bl) [c1, c2, .v (.tuple (.str x :: xs)), .v (lotD way), c4, c5] S = res :=
  b_nx (s_ite_f (e_or_f (e_not (u := true) (e_prim (ea1 (e_var rfl)) rfl)) (e_or_f (e_cmp (e_var rfl) (e_tup rfl ea_nil (szR rfl)) (c_nilF (by omega) hd)) (e_not (u := true) (e_prim (ea1 (e_idx (e_var rfl) e_lit ix0)) rfl)))) b_nil) h
theorem c_n2 {i : Int} (h : ¬ i = 2) : cmpV .ne (.int i) (.int 2) = some true := c_neI_t h
theorem len_tup (xs : List D) : primV .len [.tuple xs] = some (.v (.int xs.length)) := rfl
theorem bd_lot2 {xs : List D} (hd : alkB 60 (.tuple (.str sLot :: xs)) = true) (h : xs.length ≠ 1) : Bd dl lq t ls k (.tuple (.str sLot :: xs)) way way := fun n pu S => by
  rw [call_walked]
  exact x_f (rs := .exc ⟨.badTree, [lotD way]⟩ S) rfl (bd_first hd (x_b (x_sIte (u := true) (e_cmp (e_idx (e_var rfl) e_lit ix0) e_lit c_ll) (x_b (ite_raise (e_or_t (e_cmp (e_prim (ea1 (e_var rfl)) (len_tup _)) e_lit (c_neI_t (by simp; omega)))) rfl) co_ex)) co_ex)) rfl
theorem bd_lotx {x : List Int} (hx : x.length ≤ 1000) (h : ls ≠ [x]) : Bd dl lq t ls k (.tuple [.str sLot, lotD x]) way way := fun n pu S => by
  rw [call_walked]
  have hd : alkB 60 (.tuple [.str sLot, lotD x]) = true := alk_tup (k := 59) (by simp) fun y hy => by
    rcases List.mem_cons.mp hy with rfl | hy
    · exact ok_lot
    · rw [List.mem_singleton.mp hy]
      exact alk_add 58 1 _ (alk_lot x (by omega))
  have c2 : cmpV .ne (probesD ls) (.tuple [lotD x]) = some true := (c_lotsN ls [x]).trans (by simp [h])
  exact x_f (rs := .exc ⟨.badTree, [lotD way]⟩ S) rfl (bd_first hd (x_b (x_sIte (u := true) (e_cmp (e_idx (e_var rfl) e_lit ix0) e_lit c_ll) (x_b (ite_raise (e_or_f (e_cmp (u := false) (e_prim (ea1 (e_var rfl)) rfl) e_lit rfl) (e_cmp (e_var rfl) (e_tup rfl (ea1 (e_idx (e_var rfl) e_lit rfl)) (szR rfl)) c2)) rfl) co_ex)) co_ex)) rfl
theorem bd_lots {xs : List D} (hd : alkB 60 (.tuple (.str sLots :: xs)) = true) : Bd dl lq t ls k (.tuple (.str sLots :: xs)) way way := fun n pu S => by
  rw [call_walked]
  exact x_f (rs := .exc ⟨.badTree, [lotD way]⟩ S) rfl (bd_first hd (b_nx (s_ite_f (e_cmp (e_idx (e_var rfl) e_lit ix0) e_lit c_sl) b_nil) (x_b (ite_raise (e_or_t (e_cmp (e_idx (e_var rfl) e_lit ix0) e_lit c_sp)) rfl) co_ex))) rfl
theorem bd_pro3 {xs : List D} (hd : alkB 60 (.tuple (.str sPro :: xs)) = true) (h : xs.length ≠ 3) : Bd dl lq t ls k (.tuple (.str sPro :: xs)) way way := fun n pu S => by
  rw [call_walked]
  exact x_f (rs := .exc ⟨.badTree, [lotD way]⟩ S) rfl (bd_first hd (b_nx (s_ite_f (e_cmp (e_idx (e_var rfl) e_lit ix0) e_lit c_pl) b_nil) (x_b (ite_raise (e_or_f (e_cmp (e_idx (e_var rfl) e_lit ix0) e_lit c_pp) (e_or_t (e_cmp (e_prim (ea1 (e_var rfl)) (len_tup _)) e_lit (c_neI_t (by simp; omega))))) rfl) co_ex))) rfl
theorem bd_prox {q a b : D} (hd : alkB 60 (.tuple [.str sPro, q, a, b]) = true) (h : ∀ n S, callN (mkT dl lq) (n + 2) true .is_lot [q, .int t] S = .ok (.v (.bool false)) S) : Bd dl lq t ls k (.tuple [.str sPro, q, a, b]) way way := fun n pu S => by
  rw [call_walked]
  exact x_f (rs := .exc ⟨.badTree, [lotD way]⟩ S) rfl (bd_first hd (b_nx (s_ite_f (e_cmp (e_idx (e_var rfl) e_lit ix0) e_lit c_pl) b_nil) (x_b (ite_raise (e_or_f (e_cmp (e_idx (e_var rfl) e_lit ix0) e_lit c_pp) (e_or_f (e_cmp (u := false) (e_prim (ea1 (e_var rfl)) rfl) e_lit rfl) (e_not (u := false) (e_callT rfl (ea2 (e_idx (e_var rfl) e_lit rfl) (e_var rfl)) (h (n + k) S))))) rfl) co_ex))) rfl
theorem bd_side {p : List Int} {a b : D} (hd : alkB 60 (.tuple [.str sPro, lotD p, a, b]) = true) (hp : Rise t p) (hl : p.length ≤ 1000) (h : noL p ls = [] ∨ yesL p ls = []) : Bd dl lq t ls k (.tuple [.str sPro, lotD p, a, b]) way way := fun n pu S => by
  rw [call_walked]
  refine x_f (rs := .exc ⟨.badTree, [lotD way]⟩ S) rfl (walked_pre (n := n + k) (k := 60) (by omega) hp hl hd ?_) rfl
  have c0 := c_lots (noL p ls) []
  have c1 := c_lots (yesL p ls) []
  refine x_b (ite_raise ?_ rfl) co_ex
  by_cases h0 : noL p ls = []
  · exact e_or_t (e_cmp (u := true) (e_var rfl) (e_tup rfl ea_nil (szR rfl)) (c0.trans (by rw [decide_eq_true h0])))
  · exact e_or_f (e_cmp (u := false) (e_var rfl) (e_tup rfl ea_nil (szR rfl)) (c0.trans (by rw [decide_eq_false h0]))) (e_cmp (u := true) (e_var rfl) (e_tup rfl ea_nil (szR rfl)) (c1.trans (by rw [decide_eq_true (h.resolve_left h0)])))
end Pb
end

section
set_option Elab.async false
set_option linter.all false
set_option maxRecDepth 100000
set_option maxHeartbeats 1000000
/-! Trees drawn. -/
namespace Pb
open PySem
variable {dl : FD} {lq : Nat → PySem.Addr → List (PySem.Addr × L2.HO) → Prop}
variable {n : Nat} {pu : Bool} {S : List SO} {ns : List Int}
variable {t : Nat} {ls : List (List Int)} {way : List Int}
theorem sort_ext : ∀ a b : List Int, a.Pairwise (· < ·) → b.Pairwise (· < ·) → (∀ x, x ∈ a ↔ x ∈ b) → a = b
  | [], [], _, _, _ => rfl
  | [], y :: b, _, _, h => absurd ((h y).mpr (by simp)) (by simp)
  | x :: a, [], _, _, h => absurd ((h x).mp (by simp)) (by simp)
  | x :: a, y :: b, ha, hb, h => by
    rw [List.pairwise_cons] at ha hb
    have e : x = y := by
      have h1 := (h x).mp (by simp)
      have h2 := (h y).mpr (by simp)
      rcases List.mem_cons.mp h1 with h1 | h1
      · exact h1
      · rcases List.mem_cons.mp h2 with h2 | h2
        · exact h2.symm
        · have := ha.1 y h2
          have := hb.1 x h1
          omega
    subst e
    rw [sort_ext a b ha.2 hb.2 fun z => ?_]
    constructor
    · intro hz
      rcases List.mem_cons.mp ((h z).mp (by simp [hz])) with h1 | h1
      · have := ha.1 z hz
        omega
      · exact h1
    · intro hz
      rcases List.mem_cons.mp ((h z).mpr (by simp [hz])) with h1 | h1
      · have := hb.1 z hz
        omega
      · exact h1
/-- two lots are told apart by one thing -/
theorem one_apart {a b : List Int} (ha : Rise t a) (hb : Rise t b) (h : a ≠ b) : ∃ x : Nat, x < t ∧ ¬ (((x : Int) ∈ a) ↔ ((x : Int) ∈ b)) := by
  refine Classical.byContradiction fun q => h (sort_ext a b ha.up hb.up fun x => ?_)
  by_cases hx : 0 ≤ x ∧ x < t
  · have := Classical.not_not.mp fun z => q ⟨x.toNat, by omega, z⟩
    rwa [Int.toNat_of_nonneg hx.1] at this
  · exact ⟨fun m => absurd (ha.bd x m) hx, fun m => absurd (hb.bd x m) hx⟩
theorem meet1 (x : Int) (l : List Int) : meetB [x] l = decide (x ∈ l) := by simp [meetB]
theorem one_sep (h2 : 2 ≤ ls.length) (hn : ls.Nodup) (hr : ∀ l ∈ ls, Rise t l) : ∃ x : Nat, x < t ∧ noL [(x : Int)] ls ≠ [] ∧ yesL [(x : Int)] ls ≠ [] := by
  match ls, h2, hn, hr with
  | a :: b :: r, _, hn, hr =>
    have hab : a ≠ b := fun e => by
      rw [List.nodup_cons] at hn
      exact hn.1 (by simp [e])
    obtain ⟨x, hx, q⟩ := one_apart (hr a (by simp)) (hr b (by simp)) hab
    refine ⟨x, hx, ?_⟩
    by_cases h1 : (x : Int) ∈ a
    · have h3 : (x : Int) ∉ b := fun h => q ⟨fun _ => h, fun _ => h1⟩
      exact ⟨List.ne_nil_of_mem (List.mem_filter.mpr ⟨(by simp : b ∈ a :: b :: r), by rw [meet1]; simp [h3]⟩), List.ne_nil_of_mem (List.mem_filter.mpr ⟨(by simp : a ∈ a :: b :: r), by rw [meet1]; simp [h1]⟩)⟩
    · have h3 : (x : Int) ∈ b := Classical.byContradiction fun h => q ⟨fun z => absurd z h1, fun z => absurd z h⟩
      exact ⟨List.ne_nil_of_mem (List.mem_filter.mpr ⟨(by simp : a ∈ a :: b :: r), by rw [meet1]; simp [h1]⟩), List.ne_nil_of_mem (List.mem_filter.mpr ⟨(by simp : b ∈ a :: b :: r), by rw [meet1]; simp [h3]⟩)⟩
/-! the parts by own telling -/
theorem c_meet {L : Lk} {r : Rho} {a b : CE} {S : List SO} {p l : List Int} (ha : ev L a r S = .ok (.own ((p.filter fun x => decide (x ∈ l)).map D.int)) S) : ev L (.cmp .ne a (.lst .nil)) r S = .ok (.v (.bool (meetB p l))) S := by
  refine e_cmp ha (e_lst rfl ea_nil (szR rfl)) ?_
  show cmpV .ne (.list ((p.filter fun x => decide (x ∈ l)).map D.int)) (.list []) = _
  rw [c_ne (by
      show ((p.filter fun x => decide (x ∈ l)).map D.int).all (D.sh 59) = true
      simp [shI]) rfl]
  show some (!D.eqvs ((p.filter fun x => decide (x ∈ l)).map D.int) ([].map D.int)) = _
  rw [eqvsI, ne_any]
  rfl
theorem c_memLs (l : List Int) (xs : List (List Int)) : cmpV .mem (lotD l) (.list (xs.map lotD)) = some (decide (l ∈ xs)) := by
  show (if (D.sh 60 (lotD l) && (xs.map lotD).all (D.sh 60)) = true then some ((xs.map lotD).any fun y => D.eqv y (lotD l)) else none) = _
  rw [if_pos (by simp [shL])]
  congr 1
  induction xs with
  | nil => rfl
  | cons y xs ih =>
    rw [List.map_cons, List.any_cons, ih, eqvL]
    by_cases h : y = l
    · simp [h]
    · have : ¬ l = y := fun z => h z.symm
      by_cases h2 : l ∈ xs <;> simp [h, h2, this]
theorem c_nmemLs (l : List Int) (xs : List (List Int)) : cmpV .nmem (lotD l) (.list (xs.map lotD)) = some (!decide (l ∈ xs)) := by
  have := c_memLs l xs
  show (memV (lotD l) (.list (xs.map lotD))).map (!·) = _
  rw [show memV (lotD l) (.list (xs.map lotD)) = some (decide (l ∈ xs)) from this]
  rfl
theorem rest_no (p : List Int) (ls : List (List Int)) : (ls.filter fun l => !decide (l ∈ yesL p ls)) = noL p ls := by
  unfold noL
  refine List.filter_congr fun l hl => ?_
  unfold yesL
  by_cases h : meetB p l = true <;> simp [List.mem_filter, hl, h]
theorem v_mulB (x : D) (b : Bool) : binV .mul (.list [x]) (.int (if b = true then 1 else 0)) = some (.own (if b = true then [x] else [])) := by cases b <;> rfl
theorem v_addL {A B : List D} (h : A.length + B.length ≤ 1000000) : binV .add (.list A) (.list B) = some (.own (A ++ B)) := if_pos (sz h)
def sD (ls : List (List Int)) (p : List Int) : D := .tuple [lotD p, .list ((yesL p ls).map lotD)]
def sepB (ls : List (List Int)) (p : List Int) : Bool := decide (0 < (yesL p ls).length) && decide ((yesL p ls).length < ls.length)
theorem sep_iff (p : List Int) : sepB ls p = true ↔ noL p ls ≠ [] ∧ yesL p ls ≠ [] := by
  have := ny_len p ls
  unfold sepB
  rw [Bool.and_eq_true, decide_eq_true_eq, decide_eq_true_eq, ← List.length_pos_iff, ← List.length_pos_iff]
  omega
def drawB : CB := forB (nthB d__law_drawn.body 2)
theorem draw_loop {L : Lk} (items : List (List Int)) (h2 : items.length ≤ 100) (c0 c1 c3 c6 : Sl) : ∃ a b, forGo (fF L (.var 5) drawB) (items.map lotD) [c0, c1, .v (.list (ls.map lotD)), c3, .v (.list []), .un, .un, .un, .un, .un, .un, .un] S = .ok (.nx [c0, c1, .v (.list (ls.map lotD)), c3, .v (.list ((items.filter (sepB ls)).map (sD ls))), a, b, .un, .un, .un, .un, .un]) S := by
  obtain ⟨r', S', hf, rfl, a, b, rfl⟩ := for_inv (f := fF L (.var 5) drawB) (items := items.map lotD) (r := [c0, c1, .v (.list (ls.map lotD)), c3, .v (.list []), .un, .un, .un, .un, .un, .un, .un]) (S := S)
    (fun k r S' => S' = S ∧ ∃ a b, r = [c0, c1, .v (.list (ls.map lotD)), c3, .v (.list (((items.take k).filter (sepB ls)).map (sD ls))), a, b, .un, .un, .un, .un, .un]) (fun k x r S' hx hP => by
    obtain ⟨rfl, a, b, rfl⟩ := hP
    rw [List.getElem?_map] at hx
    cases q : items[k]? with
    | none => rw [q] at hx; cases hx
    | some p =>
      rw [q] at hx
      cases hx
      have hk : k < items.length := (List.getElem?_eq_some_iff.mp q).1
      have e : (items.take (k + 1)).filter (sepB ls) = (items.take k).filter (sepB ls) ++ (if sepB ls p = true then [p] else []) := by
        rw [List.take_add_one, q, List.filter_append]
        congr 1
        cases h : sepB ls p <;> simp [h]
      have hlen : ((items.take k).filter (sepB ls)).length ≤ 100 := Nat.le_trans (List.length_filter_le _ _) (by rw [List.length_take]; omega)
      have hc : compGo (cF L (.var 10) (.var 10) (.cons (.cmp .ne (.comp (.var 11) (.var 11) (.seq (.var 5)) (.cons (.cmp .mem (.var 11) (.var 10)) .nil) [11]) (.lst .nil)) .nil) [10] [c0, c1, .v (.list (ls.map lotD)), c3, .v (.list (((items.take k).filter (sepB ls)).map (sD ls))), .v (lotD p), b, .un, .un, .un, .un, .un]) (ls.map lotD) S' = .ok ((yesL p ls).map lotD) S' :=
        comp_mapE (enc := lotD) (g := fun l => if meetB p l = true then some (lotD l) else none) (fun l hl => cf_if rfl (c_meet (b := .lit .non) (e_comp (ei_seq (e_var rfl) rfl) (comp_mapE (enc := D.int) (g := fun x => if decide (x ∈ l) = true then some (D.int x) else none) (fun x hx => cf_if rfl (e_cmp (e_var rfl) (e_var rfl) (c_mem x l)) (fun _ => e_var rfl) rfl) (fm_filter _ _ _)))) (fun _ => e_var rfl) rfl) (fm_filter _ _ _)
      have hch : ev L (.chain .lt .lt (.lit (.int 0)) (.prim .len (.cons (.var 6) .nil)) (.prim .len (.cons (.var 2) .nil))) [c0, c1, .v (.list (ls.map lotD)), c3, .v (.list (((items.take k).filter (sepB ls)).map (sD ls))), .v (lotD p), .v (.list ((yesL p ls).map lotD)), .un, .un, .un, .un, .un] S' = .ok (.v (.bool (sepB ls p))) S' := by
        have l1 : primV .len [.list ((yesL p ls).map lotD)] = some (.v (.int (yesL p ls).length)) := by
          show some (Out.v (.int (((yesL p ls).map lotD).length : Nat))) = _
          rw [List.length_map]
        have l2 : primV .len [.list (ls.map lotD)] = some (.v (.int ls.length)) := by
          show some (Out.v (.int ((ls.map lotD).length : Nat))) = _
          rw [List.length_map]
        unfold sepB
        by_cases h0 : 0 < (yesL p ls).length
        · rw [decide_eq_true h0, Bool.true_and]
          exact e_chain_t e_lit (e_prim (ea1 (e_var rfl)) l1) (c_lt_t (by omega)) (e_prim (ea1 (e_var rfl)) l2) (c_lt.trans (by congr 1; simp))
        · rw [decide_eq_false h0, Bool.false_and]
          exact e_chain_f e_lit (e_prim (ea1 (e_var rfl)) l1) (c_lt_f (by omega))
      refine ⟨_, _, ff_in rfl (b_nx (s_set (e_comp (ei_seq (e_var rfl) rfl) hc)) (b_nx (s_set (e_bin (e_var rfl) (e_bin (e_lst rfl (ea1 (e_tup rfl (ea2 (e_var rfl) (e_var rfl)) (szR rfl))) (szR rfl)) (e_prim (ea1 hch) rfl) (v_mulB _ _)) (v_addL ?_))) b_nil)), rfl, .v (lotD p), .v (.list ((yesL p ls).map lotD)), ?_⟩
      · rw [List.length_map]
        split <;> simp <;> omega
      · rw [e, List.map_append]
        cases sepB ls p <;> rfl) ⟨rfl, _, _, rfl⟩
  refine ⟨a, b, ?_⟩
  rw [List.length_map, List.take_length] at hf
  exact hf
end Pb
end

section
set_option Elab.async false
set_option linter.all false
set_option maxRecDepth 100000
set_option maxHeartbeats 1000000
/-! Trees drawn: what is handed back. -/
namespace Pb
open PySem
variable {dl : FD} {lq : Nat → PySem.Addr → List (PySem.Addr × L2.HO) → Prop}
variable {n : Nat} {pu : Bool} {S : List SO} {ns : List Int}
variable {t : Nat} {ls : List (List Int)} {way : List Int}
theorem len_lls (ls : List (List Int)) : primV .len [.list (ls.map lotD)] = some (.v (.int ls.length)) := by
  show some (Out.v (.int ((ls.map lotD).length : Nat))) = _
  rw [List.length_map]
theorem idx_own {α : Type} {f : α → D} {xs : List α} {v : Nat} {x : α} (h : xs[v]? = some x) : idxV S (.list (xs.map f)) (.int (v : Nat)) = some (f x) := by
  show L2.atI (xs.map f) (v : Int) = _
  rw [atI_nat, List.getElem?_map, h]
  rfl
theorem rest_comp {L : Lk} {r : Rho} {p : List Int} (e : ∀ l, ev L (.cmp .nmem (.var 10) (.var 6)) ((wipeR r [10]).set 10 (.v (lotD l))) S = .ok (.v (.bool (!decide (l ∈ yesL p ls)))) S) (e2 : ∀ l, ev L (.var 10) ((wipeR r [10]).set 10 (.v (lotD l))) S = .ok (.v (lotD l)) S) : compGo (cF L (.var 10) (.var 10) (.cons (.cmp .nmem (.var 10) (.var 6)) .nil) [10] r) (ls.map lotD) S = .ok ((noL p ls).map lotD) S :=
  comp_mapE (enc := lotD) (g := fun l => if (!decide (l ∈ yesL p ls)) = true then some (lotD l) else none) (fun l hl => cf_if rfl (e l) (fun _ => e2 l) rfl) (by rw [fm_filter, rest_no])
theorem drawn_ok : ∀ (k : Nat) (ls : List (List Int)) (way : List Int) (n : Nat) (S : List SO), 1 ≤ ls.length → ls.length ≤ k → k ≤ 50 → way.length + k ≤ 900 → ls.Nodup → (∀ l ∈ ls, Rise t l ∧ l.length ≤ 1000) → t ≤ 10 → RowOk ns S → ∃ d due S', callN (mkT dl lq) (n + k + 3) false .l_drawn [.loc 0, .int t, .list (ls.map lotD), lotD way] S = .ok (.v (.tuple [d, .list (due.map pairT)])) S' ∧ RowOk ns S' ∧ Tr t ls d way.length due := by
  intro k
  induction k with
  | zero => intro ls way n S h1 h2; omega
  | succ k ih =>
    intro ls way n S h1 h2 hk hw hn hr ht hS
    rw [show n + (k + 1) + 3 = (n + k + 3) + 1 by omega, call__law_drawn]
    by_cases hone : ls.length = 1
    · obtain ⟨l, rfl⟩ : ∃ l, ls = [l] := by
        match ls, hone with
        | [l], _ => exact ⟨l, rfl⟩
      refine ⟨.tuple [.str sLot, lotD l], [(l, way.length)], S, f_rt rfl (b_rt (s_ite_t (e_cmp (u := true) (e_prim (ea1 (e_var rfl)) (len_lls [l])) e_lit (c_eqI_t rfl)) (b_rt (s_ret (e_tup rfl (ea2 (e_tup rfl (ea2 e_lit (e_idx (e_var rfl) e_lit rfl)) (szR rfl)) (e_lst rfl (ea1 (e_tup rfl (ea2 (e_idx (e_var rfl) e_lit rfl) (e_prim (ea1 (e_var rfl)) (len_lot way))) (szR rfl))) (szR rfl))) (szR rfl)))))), hS, .leaf l _⟩
    · obtain ⟨la, S1, q1, R1, ra, hla⟩ := l_lot_ok (dl := dl) (lq := lq) (n := n + k + 1) ht hS
      obtain ⟨lb, S2, q2, R2, rb', hlb⟩ := l_lot_ok (dl := dl) (lq := lq) (n := n + k + 1) ht R1
      have hsing : compGo (cF (lk (mkT dl lq) (n + k + 3) false) (.tup (.cons (.var 11) .nil)) (.var 11) .nil [11] [.v (.loc 0), .v (.int t), .v (.list (ls.map lotD)), .v (lotD way), .v (.list []), .un, .un, .un, .un, .un, .un, .un]) ((List.range t).map fun (k : Nat) => .int (0 + k)) S = .ok (((List.range t).map fun (x : Nat) => [(x : Int)]).map lotD) S :=
        comp_mapE (enc := fun (k : Nat) => D.int (0 + k)) (g := fun x => some (lotD [(x : Int)])) (fun x hx => cf_all rfl (e_tup rfl (ea1 (e_var rfl)) (szR rfl)) (by rw [Int.zero_add]; rfl)) (by rw [fm_map, List.map_map]; rfl)
      have hit : ∃ items : List (List Int), items = ((List.range t).map fun (x : Nat) => [(x : Int)]) ++ [la, lb] := ⟨_, rfl⟩
      obtain ⟨items, hit⟩ := hit
      have hil : items.length = t + 2 := by rw [hit]; simp
      have hiR : ∀ p ∈ items, Rise t p ∧ p.length ≤ 1000 := fun p hp => by
        rw [hit] at hp
        rcases List.mem_append.mp hp with h | h
        · obtain ⟨x, hx, rfl⟩ := List.mem_map.mp h
          have := List.mem_range.mp hx
          exact ⟨(rise_one (t := t) (v := x) (by omega) (by omega)).1, by simp⟩
        · simp only [List.mem_cons, List.not_mem_nil, or_false] at h
          rcases h with rfl | rfl
          · exact ⟨ra, by omega⟩
          · exact ⟨rb', by omega⟩
      have hadd : binV .add (.list (((List.range t).map fun (x : Nat) => [(x : Int)]).map lotD)) (.list [lotD la, lotD lb]) = some (.own (items.map lotD)) := by
        rw [v_addL (by simp; omega), hit, List.map_append]
        rfl
      obtain ⟨a, b, hf⟩ := draw_loop (S := S2) (ls := ls) (L := lk (mkT dl lq) (n + k + 3) false) items (by omega) (.v (.loc 0)) (.v (.int t)) (.v (lotD way)) .un
      obtain ⟨sm, hsm⟩ : ∃ sm, sm = items.filter (sepB ls) := ⟨_, rfl⟩
      rw [← hsm] at hf
      have hne : 0 < sm.length := by
        obtain ⟨x, hx, s0, s1⟩ := one_sep (t := t) (by omega) hn fun l hl => (hr l hl).1
        refine List.length_pos_iff.mpr (List.ne_nil_of_mem (a := [(x : Int)]) ?_)
        rw [hsm, hit]
        exact List.mem_filter.mpr ⟨List.mem_append_left _ (List.mem_map.mpr ⟨x, List.mem_range.mpr hx, rfl⟩), (sep_iff _).mpr ⟨s0, s1⟩⟩
      have hsl : sm.length ≤ 100 := by
        rw [hsm]
        exact Nat.le_trans (List.length_filter_le _ _) (by omega)
      obtain ⟨v, S3, q3, R3, v0, v1⟩ := l_taken_ok (dl := dl) (lq := lq) (n := n + k + 2) (many := (sm.length : Nat)) (by omega) (by omega) R2
      obtain ⟨v, rfl⟩ : ∃ u : Nat, v = u := ⟨v.toNat, by omega⟩
      have hv : v < sm.length := by omega
      obtain ⟨p, hp⟩ : ∃ p, sm[v]? = some p := ⟨sm[v], by simp [hv]⟩
      have hpm : p ∈ items.filter (sepB ls) := hsm ▸ List.mem_of_getElem? hp
      obtain ⟨hp1, hp2⟩ := List.mem_filter.mp hpm
      obtain ⟨s0, s1⟩ := (sep_iff p).mp hp2
      obtain ⟨hpr, hpl⟩ := hiR p hp1
      have e := ny_len p ls
      have p0 := List.length_pos_iff.mpr s0
      have p1 := List.length_pos_iff.mpr s1
      obtain ⟨da, ua, S4, q4, R4, ta⟩ := ih (noL p ls) (way ++ [0]) n S3 p0 (by omega) (by omega) (by simp; omega) (hn.filter _) (fun l hl => hr l (List.mem_filter.mp hl).1) ht R3
      obtain ⟨db, ub, S5, q5, R5, tb⟩ := ih (yesL p ls) (way ++ [1]) n S4 p1 (by omega) (by omega) (by simp; omega) (hn.filter _) (fun l hl => hr l (List.mem_filter.mp hl).1) ht R4
      rw [List.length_append] at ta tb
      have la' := ta.len
      have lb' := tb.len
      have lsm : primV .len [.list (sm.map (sD ls))] = some (.v (.int sm.length)) := by
        show some (Out.v (.int ((sm.map (sD ls)).length : Nat))) = _
        rw [List.length_map]
      refine ⟨.tuple [.str sPro, lotD p, da, db], ua ++ ub, S5, f_rt rfl (b_nx (s_ite_f (e_cmp (u := false) (e_prim (ea1 (e_var rfl)) (len_lls ls)) e_lit (c_eqI_f (by omega))) b_nil)
        (b_nx (s_set (e_lst rfl ea_nil (szR rfl)))
        (b_nx (s_for (ei_seq (e_bin (e_comp (ei_rng (ea1 (e_var rfl)) (rngN (by omega))) hsing) (e_lst rfl (ea2 (e_callT rfl (ea2 (e_var rfl) (e_var rfl)) q1) (e_callT rfl (ea2 (e_var rfl) (e_var rfl)) q2)) (szR rfl)) hadd) rfl) hf)
        (b_nx (s_unp (e_idx (e_var rfl) (e_callT rfl (ea2 (e_var rfl) (e_prim (ea1 (e_var rfl)) lsm)) q3) (idx_own hp)) rfl)
        (b_nx (s_set (e_comp (ei_seq (e_var rfl) rfl) (rest_comp (p := p) (fun l => e_cmp (e_var rfl) (e_var rfl) (c_nmemLs l _)) fun l => e_var rfl)))
        (b_nx (s_par2 rfl (e_callT rfl (ea4 (e_var rfl) (e_var rfl) (e_var rfl) (e_bin (e_var rfl) (e_tup rfl (ea1 e_lit) (szR rfl)) (add_way way 0 (by omega)))) q4) (e_callT rfl (ea4 (e_var rfl) (e_var rfl) (e_var rfl) (e_bin (e_var rfl) (e_tup rfl (ea1 e_lit) (szR rfl)) (add_way way 1 (by omega)))) q5))
        (b_rt (s_ret (e_tup rfl (ea2 (e_tup rfl (ea4 e_lit (e_var rfl) (e_idx (e_var rfl) e_lit rfl) (e_idx (e_var rfl) e_lit rfl)) (szR rfl)) (e_bin (e_idx (e_var rfl) e_lit rfl) (e_idx (e_var rfl) e_lit rfl) (add_own ua ub (by omega)))) (szR rfl)))))))))), R5, .probe hpr hpl s0 s1 ta tb⟩
end Pb
end

section
set_option Elab.async false
set_option linter.all false
set_option maxRecDepth 100000
set_option maxHeartbeats 1000000
/-! Odd trees. -/
namespace Pb
open PySem
variable {dl : FD} {lq : Nat → PySem.Addr → List (PySem.Addr × L2.HO) → Prop}
variable {n : Nat} {pu : Bool} {S : List SO} {ns : List Int}
variable {t : Nat} {ls : List (List Int)} {way : List Int} {d : D} {w k : Nat} {due : List (List Int × Nat)}
theorem alk_le {j k : Nat} {d : D} (h : j ≤ k) (q : alkB j d = true) : alkB k d = true := by
  have := alk_add (k - j) j d q
  rwa [show j + (k - j) = k by omega] at this
theorem alk_str {x : Str} (k : Nat) (h : PyData.strOk x = true) : alkB k (.str x) = true := by cases k <;> exact h
theorem alk_int (k : Nat) (i : Int) : alkB k (.int i) = true := by cases k <;> rfl
theorem alk_2 {a b : D} (ha : alkB k a = true) (hb : alkB k b = true) : alkB (k + 1) (.tuple [a, b]) = true := alk_tup (by simp) fun x hx => by
  simp only [List.mem_cons, List.not_mem_nil, or_false] at hx
  rcases hx with rfl | rfl <;> assumption
theorem alk_3 {a b c : D} (ha : alkB k a = true) (hb : alkB k b = true) (hc : alkB k c = true) : alkB (k + 1) (.tuple [a, b, c]) = true := alk_tup (by simp) fun x hx => by
  simp only [List.mem_cons, List.not_mem_nil, or_false] at hx
  rcases hx with rfl | rfl | rfl <;> assumption
theorem alk_4 {a b c e : D} (ha : alkB k a = true) (hb : alkB k b = true) (hc : alkB k c = true) (he : alkB k e = true) : alkB (k + 1) (.tuple [a, b, c, e]) = true := alk_tup (by simp) fun x hx => by
  simp only [List.mem_cons, List.not_mem_nil, or_false] at hx
  rcases hx with rfl | rfl | rfl | rfl <;> assumption
def rngL (t : Nat) : List Int := (List.range t).map fun (k : Nat) => 0 + (k : Int)
theorem rng3L (h : t ≤ 1000) : rng3V [.int t] = some ((rngL t).map D.int) := by
  show (if 0 ≤ (t : Int) ∧ (t : Int) ≤ 16777216 then _ else none) = _
  rw [if_pos ⟨by omega, by omega⟩, Int.toNat_natCast]
  unfold rngL
  rw [List.map_map]
  rfl
/-- what is handed to those that can't be read -/
def oddL (t : Nat) (l0 : List Int) (one : Bool) (d : D) (ds : List D) : List D :=
  [.tuple [], .non, .int 5, .tuple [.str sLot], .tuple [.str sLots, lotD l0], .tuple [.str sLot, lotD l0, .int 0], .tuple [.str sPro, .tuple [.int 0], d], .list ds] ++ [.tuple [.str sLot, .tuple [.int 99]], .tuple [.str sPro, .tuple [], d, d], .tuple [.str sPro, .tuple [.int t], d, d]] ++ [.tuple [.str sPro, .list [.int 0], d, d], .str sLot, .tuple [.int 5, .int 5]] ++ List.replicate 3 (if one = true then .tuple [.str sPro, lotD (rngL t), d, d] else .tuple [.str sLot, lotD l0])
theorem Tr.tup (h : Tr t ls d w due) : ∃ ds, d = .tuple ds := by cases h <;> exact ⟨_, rfl⟩
theorem odd_bd (h : Tr t ls d w due) {ds : List D} (hds : d = .tuple ds) {l0 : List Int} (hl0 : ls.head? = some l0) (hk : ls.length ≤ k) (hk2 : k ≤ 50) (t1 : 1 ≤ t) (t2 : t ≤ 10) (hr : ∀ l ∈ ls, Rise t l ∧ l.length ≤ 1000) : ∀ x ∈ oddL t l0 (decide (ls.length = 1)) d ds, Bd dl lq t ls k x way way ∧ alkB (k + 4) x = true := by
  have al0 : alkB (k + 3) d = true := alk_le (by omega) (h.alk fun l hl => (hr l hl).2)
  have hm : l0 ∈ ls := List.mem_of_head? hl0
  have all : ∀ p : List Int, p.length ≤ 1000 → alkB (k + 3) (lotD p) = true := fun p hp => alk_le (by omega) (alk_lot p (by omega))
  have sL : alkB (k + 3) (.str sLot) = true := alk_str _ ok_lot
  have sP : alkB (k + 3) (.str sPro) = true := alk_str _ ok_pro
  have sS : alkB (k + 3) (.str sLots) = true := alk_str _ ok_lots
  have up : ∀ {x : D}, alkB (k + 4) x = true → alkB 60 x = true := fun h => alk_le (by omega) h
  have a4 : ∀ q : D, alkB (k + 3) q = true → alkB (k + 4) (.tuple [.str sPro, q, d, d]) = true := fun q hq => alk_4 sP hq al0 al0
  intro x hx
  unfold oddL at hx
  simp only [List.mem_append, List.mem_cons, List.not_mem_nil, or_false, List.mem_replicate] at hx
  have hdt : alkB (k + 3) (.list ds) = true := by
    subst hds
    exact al0
  have isl : ∀ {q : D}, (q = .tuple [.int t] ∨ q = .tuple [.int (-1)] ∨ q = .tuple [.int 0, .int 0] ∨ (∃ xs, q = .list xs) ∨ q = .non ∨ q = .int 5 ∨ q = .tuple [.bool true] ∨ q = .tuple [.str "0"]) → ∀ n S, callN (mkT dl lq) (n + 2) true .is_lot [q, .int t] S = .ok (.v (.bool false)) S := fun h n S => bad_lot t1 t2 h
  rcases hx with (((rfl | rfl | rfl | rfl | rfl | rfl | rfl | rfl) | rfl | rfl | rfl) | rfl | rfl | rfl) | ⟨_, rfl⟩
  · exact ⟨bd_nil, rfl⟩
  · exact ⟨bd_kind rfl, rfl⟩
  · exact ⟨bd_kind rfl, rfl⟩
  · have q : alkB (k + 4) (.tuple [.str sLot]) = true := alk_tup (by simp) fun x hx => by
      rw [List.mem_singleton.mp hx]
      exact sL
    exact ⟨bd_lot2 (up q) (by simp), q⟩
  · have q : alkB (k + 4) (.tuple [.str sLots, lotD l0]) = true := alk_2 sS (all l0 (hr l0 hm).2)
    exact ⟨bd_lots (up q), q⟩
  · have q : alkB (k + 4) (.tuple [.str sLot, lotD l0, .int 0]) = true := alk_3 sL (all l0 (hr l0 hm).2) (alk_int _ _)
    exact ⟨bd_lot2 (up q) (by simp), q⟩
  · have q : alkB (k + 4) (.tuple [.str sPro, .tuple [.int 0], d]) = true := alk_3 sP (all [0] (by simp)) al0
    exact ⟨bd_pro3 (up q) (by simp), q⟩
  · exact ⟨bd_kind rfl, alk_le (by omega) hdt⟩
  · have q : alkB (k + 4) (.tuple [.str sLot, lotD [99]]) = true := alk_2 sL (all [99] (by simp))
    refine ⟨bd_lotx (x := [99]) (by simp) fun e => ?_, q⟩
    have := ((hr [99] (by rw [e]; simp)).1.bd 99 (by simp)).2
    omega
  · have q := a4 (lotD []) (all [] (by simp))
    exact ⟨bd_side (p := []) (up q) ⟨List.Pairwise.nil, fun x hx => by cases hx⟩ (by simp) (.inr (by
      unfold yesL
      exact List.filter_eq_nil_iff.mpr fun l _ => by simp [meetB])), q⟩
  · have q := a4 (lotD [(t : Int)]) (all [(t : Int)] (by simp))
    exact ⟨bd_prox (up q) (isl (.inl rfl)), q⟩
  · have q := a4 (.list [.int 0]) (alk_lst (k := k + 2) (by simp) fun x hx => by
      rw [List.mem_singleton.mp hx]
      exact alk_int _ _)
    exact ⟨bd_prox (up q) (isl (.inr (.inr (.inr (.inl ⟨_, rfl⟩))))), q⟩
  · exact ⟨bd_kind rfl, alk_str _ ok_lot⟩
  · have q : alkB (k + 4) (.tuple [.int 5, .int 5]) = true := alk_2 (k := k + 3) (alk_int _ _) (alk_int _ _)
    exact ⟨bd_head (up q) rfl, q⟩
  · by_cases hone : ls.length = 1
    · rw [decide_eq_true hone, if_pos rfl]
      have q := a4 (lotD (rngL t)) (all (rngL t) (by unfold rngL; simp; omega))
      refine ⟨bd_side (up q) (rise_sub (List.Sublist.refl _)) (by unfold rngL; simp; omega) ?_, q⟩
      match ls, hone with
      | [l], _ =>
        unfold noL yesL
        cases h : meetB (rngL t) l <;> simp [h]
    · rw [decide_eq_false hone, if_neg (by simp)]
      have q : alkB (k + 4) (.tuple [.str sLot, lotD l0]) = true := alk_2 sL (all l0 (hr l0 hm).2)
      exact ⟨bd_lotx (hr l0 hm).2 fun e => hone (by rw [e]; rfl), q⟩
end Pb
end

section
set_option Elab.async false
set_option linter.all false
set_option maxRecDepth 100000
set_option maxHeartbeats 1000000
/-! Odd trees: how they are made. -/
namespace Pb
open PySem
variable {dl : FD} {lq : Nat → PySem.Addr → List (PySem.Addr × L2.HO) → Prop}
variable {n : Nat} {pu : Bool} {S : List SO} {ns : List Int}
variable {t : Nat} {ls : List (List Int)} {way : List Int} {d : D} {w k : Nat} {due : List (List Int × Nat)}
theorem c_lp : cmpV .eq (.str sLot) (.str sPro) = some false := by kernel_rfl
theorem c_ppE : cmpV .eq (.str sPro) (.str sPro) = some true := by kernel_rfl
theorem odd_len (l0 : List Int) (one : Bool) (d : D) (ds : List D) : (oddL t l0 one d ds).length = 17 := by simp [oddL]
theorem odd_flat (h : Tr t ls d w due) (hk : ls.length ≤ k) (hk2 : k ≤ 50) (t1 : 1 ≤ t) (t2 : t ≤ 10) (hr : ∀ l ∈ ls, Rise t l ∧ l.length ≤ 1000) (hS : RowOk ns S) : ∃ bad S', exB (lk (mkT dl lq) (n + k + 2) false) (dropB d__law_odd_tree.body 1) [.v (.loc 0), .v (.int t), .v (.list (ls.map lotD)), .v d, .v (lotD way), .un, .un, .un, .un, .un, .un, .un] S = .ok (.rt (.v (.tuple [bad, lotD way]))) S' ∧ RowOk ns S' ∧ Bd dl lq t ls k bad way way ∧ alkB (k + 4) bad = true := by
  obtain ⟨ds, hds⟩ := h.tup
  have hp := h.pos
  obtain ⟨l0, r, hls⟩ : ∃ l0 r, ls = l0 :: r := by
    match ls, hp with
    | a :: b, _ => exact ⟨a, b, rfl⟩
  obtain ⟨v, S1, q1, R1, v0, v1⟩ := l_taken_ok (dl := dl) (lq := lq) (n := n + k + 1) (many := 17) (by omega) (by omega) hS
  obtain ⟨v, rfl⟩ : ∃ u : Nat, v = u := ⟨v.toNat, by omega⟩
  obtain ⟨bad, hb⟩ : ∃ bad, (oddL t l0 (decide (ls.length = 1)) d ds)[v]? = some bad := ⟨(oddL t l0 (decide (ls.length = 1)) d ds)[v]'(by rw [odd_len]; omega), by simp [odd_len] <;> omega⟩
  have hix : idxV S1 (.list (oddL t l0 (decide (ls.length = 1)) d ds)) (.int (v : Nat)) = some bad := by
    show L2.atI _ (v : Int) = _
    rw [atI_nat, hb]
  have hbb := odd_bd (dl := dl) (lq := lq) (way := way) h hds (l0 := l0) (by rw [hls]; rfl) hk hk2 t1 t2 hr bad (List.mem_of_getElem? hb)
  refine ⟨bad, S1, ?_, R1, hbb⟩
  have h0 : ∀ S, idxV S (.list (ls.map lotD)) (.int 0) = some (lotD l0) := fun S => by
    rw [hls]
    exact (atI_nat (lotD l0 :: r.map lotD) 0).trans rfl
  have hlst : primV .lstOf [d] = some (.own ds) := by
    subst hds
    rfl
  have a1 : binV .add (.list [.tuple [], .non, .int 5, .tuple [.str sLot], .tuple [.str sLots, lotD l0], .tuple [.str sLot, lotD l0, .int 0], .tuple [.str sPro, .tuple [.int 0], d], .list ds]) (.list [.tuple [.str sLot, .tuple [.int 99]], .tuple [.str sPro, .tuple [], d, d], .tuple [.str sPro, .tuple [.int t], d, d]]) = some (.own _) := v_addL (by simp)
  have a2 : binV .add (.list ([.tuple [], .non, .int 5, .tuple [.str sLot], .tuple [.str sLots, lotD l0], .tuple [.str sLot, lotD l0, .int 0], .tuple [.str sPro, .tuple [.int 0], d], .list ds] ++ [.tuple [.str sLot, .tuple [.int 99]], .tuple [.str sPro, .tuple [], d, d], .tuple [.str sPro, .tuple [.int t], d, d]])) (.list [.tuple [.str sPro, .list [.int 0], d, d], .str sLot, .tuple [.int 5, .int 5]]) = some (.own _) := v_addL (by simp)
  have m3 : ∀ x : D, binV .mul (.list [x]) (.int 3) = some (.own (List.replicate 3 x)) := fun x => rfl
  by_cases hone : ls.length = 1
  · rw [decide_eq_true hone] at hix
    have a3 : binV .add (.list ([.tuple [], .non, .int 5, .tuple [.str sLot], .tuple [.str sLots, lotD l0], .tuple [.str sLot, lotD l0, .int 0], .tuple [.str sPro, .tuple [.int 0], d], .list ds] ++ [.tuple [.str sLot, .tuple [.int 99]], .tuple [.str sPro, .tuple [], d, d], .tuple [.str sPro, .tuple [.int t], d, d]] ++ [.tuple [.str sPro, .list [.int 0], d, d], .str sLot, .tuple [.int 5, .int 5]])) (.list (List.replicate 3 (.tuple [.str sPro, .tuple ((rngL t).map D.int), d, d]))) = some (.own (oddL t l0 true d ds)) := v_addL (by simp)
    refine b_nx (s_set (e_lst rfl (ea_cons (e_tup rfl ea_nil (szR rfl)) (ea_cons e_lit (ea_cons e_lit (ea_cons (e_tup rfl (ea1 e_lit) (szR rfl)) (ea_cons (e_tup rfl (ea2 e_lit (e_idx (e_var rfl) e_lit (h0 _))) (szR rfl)) (ea_cons (e_tup rfl (ea3 e_lit (e_idx (e_var rfl) e_lit (h0 _)) e_lit) (szR rfl)) (ea_cons (e_tup rfl (ea3 e_lit (e_tup rfl (ea1 e_lit) (szR rfl)) (e_var rfl)) (szR rfl)) (ea1 (e_prim (ea1 (e_var rfl)) hlst))))))))) (szR rfl)))
      (b_nx (s_set (e_bin (e_var rfl) (e_lst rfl (ea3 (e_tup rfl (ea2 e_lit (e_tup rfl (ea1 e_lit) (szR rfl))) (szR rfl)) (e_tup rfl (ea4 e_lit (e_tup rfl ea_nil (szR rfl)) (e_var rfl) (e_var rfl)) (szR rfl)) (e_tup rfl (ea4 e_lit (e_tup rfl (ea1 (e_var rfl)) (szR rfl)) (e_var rfl) (e_var rfl)) (szR rfl))) (szR rfl)) a1))
      (b_nx (s_set (e_bin (e_var rfl) (e_lst rfl (ea3 (e_tup rfl (ea4 e_lit (e_lst rfl (ea1 e_lit) (szR rfl)) (e_var rfl) (e_var rfl)) (szR rfl)) e_lit (e_tup rfl (ea2 e_lit e_lit) (szR rfl))) (szR rfl)) a2))
      (b_nx (s_ite_f (e_cmp (u := false) (e_prim (ea1 (e_var rfl)) (len_lls ls)) e_lit (c_gt_f (by omega))) (b_nx (s_set (e_bin (e_var rfl) (e_bin (e_lst rfl (ea1 (e_tup rfl (ea4 e_lit (e_rgT (ea1 (e_var rfl)) (rng3L (by omega))) (e_var rfl) (e_var rfl)) (szR rfl))) (szR rfl)) e_lit (m3 _)) a3)) b_nil))
      (b_rt (s_ret (e_tup rfl (ea2 (e_idx (e_var rfl) (e_callT rfl (ea2 (e_var rfl) e_lit) q1) hix) (e_var rfl)) (szR rfl)))))))
  · rw [decide_eq_false hone] at hix
    have a3 : binV .add (.list ([.tuple [], .non, .int 5, .tuple [.str sLot], .tuple [.str sLots, lotD l0], .tuple [.str sLot, lotD l0, .int 0], .tuple [.str sPro, .tuple [.int 0], d], .list ds] ++ [.tuple [.str sLot, .tuple [.int 99]], .tuple [.str sPro, .tuple [], d, d], .tuple [.str sPro, .tuple [.int t], d, d]] ++ [.tuple [.str sPro, .list [.int 0], d, d], .str sLot, .tuple [.int 5, .int 5]])) (.list (List.replicate 3 (.tuple [.str sLot, lotD l0]))) = some (.own (oddL t l0 false d ds)) := v_addL (by simp)
    refine b_nx (s_set (e_lst rfl (ea_cons (e_tup rfl ea_nil (szR rfl)) (ea_cons e_lit (ea_cons e_lit (ea_cons (e_tup rfl (ea1 e_lit) (szR rfl)) (ea_cons (e_tup rfl (ea2 e_lit (e_idx (e_var rfl) e_lit (h0 _))) (szR rfl)) (ea_cons (e_tup rfl (ea3 e_lit (e_idx (e_var rfl) e_lit (h0 _)) e_lit) (szR rfl)) (ea_cons (e_tup rfl (ea3 e_lit (e_tup rfl (ea1 e_lit) (szR rfl)) (e_var rfl)) (szR rfl)) (ea1 (e_prim (ea1 (e_var rfl)) hlst))))))))) (szR rfl)))
      (b_nx (s_set (e_bin (e_var rfl) (e_lst rfl (ea3 (e_tup rfl (ea2 e_lit (e_tup rfl (ea1 e_lit) (szR rfl))) (szR rfl)) (e_tup rfl (ea4 e_lit (e_tup rfl ea_nil (szR rfl)) (e_var rfl) (e_var rfl)) (szR rfl)) (e_tup rfl (ea4 e_lit (e_tup rfl (ea1 (e_var rfl)) (szR rfl)) (e_var rfl) (e_var rfl)) (szR rfl))) (szR rfl)) a1))
      (b_nx (s_set (e_bin (e_var rfl) (e_lst rfl (ea3 (e_tup rfl (ea4 e_lit (e_lst rfl (ea1 e_lit) (szR rfl)) (e_var rfl) (e_var rfl)) (szR rfl)) e_lit (e_tup rfl (ea2 e_lit e_lit) (szR rfl))) (szR rfl)) a2))
      (b_nx (s_ite_t (e_cmp (u := true) (e_prim (ea1 (e_var rfl)) (len_lls ls)) e_lit (c_gt_t (by omega))) (b_nx (s_set (e_bin (e_var rfl) (e_bin (e_lst rfl (ea1 (e_tup rfl (ea2 e_lit (e_idx (e_var rfl) e_lit (h0 _))) (szR rfl))) (szR rfl)) e_lit (m3 _)) a3)) b_nil))
      (b_rt (s_ret (e_tup rfl (ea2 (e_idx (e_var rfl) (e_callT rfl (ea2 (e_var rfl) e_lit) q1) hix) (e_var rfl)) (szR rfl)))))))

theorem rest_compJ {L : Lk} {r : Rho} {p : List Int} {j : Nat} (e : ∀ l, ev L (.cmp .nmem (.var 10) (.var j)) ((wipeR r [10]).set 10 (.v (lotD l))) S = .ok (.v (.bool (!decide (l ∈ yesL p ls)))) S) (e2 : ∀ l, ev L (.var 10) ((wipeR r [10]).set 10 (.v (lotD l))) S = .ok (.v (lotD l)) S) : compGo (cF L (.var 10) (.var 10) (.cons (.cmp .nmem (.var 10) (.var j)) .nil) [10] r) (ls.map lotD) S = .ok ((noL p ls).map lotD) S :=
  comp_mapE (enc := lotD) (g := fun l => if (!decide (l ∈ yesL p ls)) = true then some (lotD l) else none) (fun l hl => cf_if rfl (e l) (fun _ => e2 l) rfl) (by rw [fm_filter, rest_no])
theorem odd_ok (h : Tr t ls d w due) : ∀ (k : Nat) (n : Nat) (S : List SO) (way : List Int), ls.length ≤ k → k ≤ 50 → way.length = w → w + k ≤ 900 → 1 ≤ t → t ≤ 10 → (∀ l ∈ ls, Rise t l ∧ l.length ≤ 1000) → RowOk ns S → ∃ bad there S', callN (mkT dl lq) (n + k + 3) false .l_odd_tree [.loc 0, .int t, .list (ls.map lotD), d, lotD way] S = .ok (.v (.tuple [bad, lotD there])) S' ∧ RowOk ns S' ∧ Bd dl lq t ls k bad way there ∧ alkB (k + 4) bad = true ∧ there.length ≤ w + k := by
  induction h with
  | leaf l w =>
    intro k n S way hk hk2 hw hwk t1 t2 hr hS
    subst hw
    obtain ⟨bad, S', hb, R, hB, ha⟩ := odd_flat (dl := dl) (lq := lq) (n := n) (way := way) (Tr.leaf (t := t) l way.length) hk hk2 t1 t2 hr hS
    rw [show n + k + 3 = (n + k + 2) + 1 by omega, call__law_odd_tree]
    exact ⟨bad, way, S', f_rt rfl (b_nx (s_ite_f (e_and_f (e_cmp (e_idx (e_var rfl) e_lit rfl) e_lit c_lp)) b_nil) hb), R, hB, ha, by omega⟩
  | @probe p ls a b w da db hp hl h0 h1 ha hb iha ihb =>
    intro k n S way hk hk2 hw hwk t1 t2 hr hS
    subst hw
    have hT := Tr.probe hp hl h0 h1 ha hb
    have e := ny_len p ls
    have p0 := List.length_pos_iff.mpr h0
    have p1 := List.length_pos_iff.mpr h1
    obtain ⟨k, rfl⟩ : ∃ j, k = j + 1 := ⟨k - 1, by omega⟩
    obtain ⟨v, S1, q1, R1, v0, v1⟩ := l_taken_ok (dl := dl) (lq := lq) (n := n + k + 2) (many := 3) (by omega) (by omega) hS
    rw [show n + (k + 1) + 3 = (n + k + 3) + 1 by omega, call__law_odd_tree]
    by_cases hv : 0 < v
    · obtain ⟨u, S2, q2, R2, u0, u1⟩ := l_taken_ok (dl := dl) (lq := lq) (n := n + k + 2) (many := 2) (by omega) (by omega) R1
      have hc : compGo (cF (lk (mkT dl lq) (n + k + 3) false) (.var 10) (.var 10) (.cons (.cmp .ne (.comp (.var 11) (.var 11) (.seq (.idx (.var 3) (.lit (.int 1)))) (.cons (.cmp .mem (.var 11) (.var 10)) .nil) [11]) (.lst .nil)) .nil) [10] [.v (.loc 0), .v (.int t), .v (.list (ls.map lotD)), .v (.tuple [.str sPro, lotD p, a, b]), .v (lotD way), .un, .un, .un, .un, .un, .un, .un]) (ls.map lotD) S1 = .ok ((yesL p ls).map lotD) S1 :=
        comp_mapE (enc := lotD) (g := fun l => if meetB p l = true then some (lotD l) else none) (fun l hl => cf_if rfl (c_meet (b := .lit .non) (e_comp (ei_seq (x := .v (lotD p)) (e_idx (e_var rfl) e_lit rfl) rfl) (comp_mapE (enc := D.int) (g := fun x => if decide (x ∈ l) = true then some (D.int x) else none) (fun x hx => cf_if rfl (e_cmp (e_var rfl) (e_var rfl) (c_mem x l)) (fun _ => e_var rfl) rfl) (fm_filter _ _ _)))) (fun _ => e_var rfl) rfl) (fm_filter _ _ _)
      have alp : alkB (k + 4) (lotD p) = true := alk_le (by omega) (alk_lot p (by omega))
      have sP : alkB (k + 4) (.str sPro) = true := alk_str _ ok_pro
      have ala : alkB (k + 4) a = true := alk_le (by omega) (ha.alk fun l hl => (hr l (List.mem_filter.mp hl).1).2)
      have alb : alkB (k + 4) b = true := alk_le (by omega) (hb.alk fun l hl => (hr l (List.mem_filter.mp hl).1).2)
      by_cases hu : u = 0
      · obtain ⟨bad, there, S3, q3, R3, hB, hA, hL⟩ := iha k n S2 (way ++ [0]) (by omega) (by omega) (by simp) (by omega) t1 t2 (fun l hl => hr l (List.mem_filter.mp hl).1) R2
        obtain ⟨x, S4, q4, R4, x0, x1⟩ := l_taken_ok (dl := dl) (lq := lq) (n := n + k + 2) (many := 2) (by omega) (by omega) R3
        obtain ⟨b', hix, alb'⟩ : ∃ b', idxV S4 (.list [b, .non]) (.int x) = some b' ∧ alkB (k + 4) b' = true := by
          have : x = 0 ∨ x = 1 := by omega
          rcases this with rfl | rfl
          · exact ⟨b, rfl, alb⟩
          · exact ⟨.non, rfl, rfl⟩
        have hd : alkB (k + 1 + 4) (.tuple [.str sPro, lotD p, bad, b']) = true := alk_4 sP alp hA alb'
        refine ⟨.tuple [.str sPro, lotD p, bad, b'], there, S4, f_rt rfl (b_rt (s_ite_t (e_and_t (e_cmp (e_idx (e_var rfl) e_lit rfl) e_lit c_ppE) (e_cmp (e_callT rfl (ea2 (e_var rfl) e_lit) q1) e_lit (c_gt_t (by omega))))
          (b_nx (s_set (e_comp (ei_seq (e_var rfl) rfl) hc))
          (b_nx (s_set (e_comp (ei_seq (e_var rfl) rfl) (rest_compJ (p := p) (fun l => e_cmp (e_var rfl) (e_var rfl) (c_nmemLs l _)) fun l => e_var rfl)))
          (b_rt (s_ite_t (e_cmp (u := true) (e_callT rfl (ea2 (e_var rfl) e_lit) q2) e_lit (c_eqI_t hu))
            (b_nx (s_unp (e_callT rfl (ea_cons (e_var rfl) (ea4 (e_var rfl) (e_var rfl) (e_idx (e_var rfl) e_lit rfl) (e_bin (e_var rfl) (e_tup rfl (ea1 e_lit) (szR rfl)) (add_way way 0 (by omega))))) q3) rfl)
            (b_rt (s_ret (e_tup rfl (ea2 (e_tup rfl (ea4 e_lit (e_idx (e_var rfl) e_lit rfl) (e_var rfl) (e_idx (e_lst rfl (ea2 (e_idx (e_var rfl) e_lit rfl) e_lit) (szR rfl)) (e_callT rfl (ea2 (e_var rfl) e_lit) q4) hix)) (szR rfl)) (e_var rfl)) (szR rfl))))))))))), R4, bd_left (by omega) (by omega) (by omega) hp hl h0 h1 (alk_le (by omega) hd) hB, hd, by omega⟩
      · obtain ⟨bad, there, S3, q3, R3, hB, hA, hL⟩ := ihb k n S2 (way ++ [1]) (by omega) (by omega) (by simp) (by omega) t1 t2 (fun l hl => hr l (List.mem_filter.mp hl).1) R2
        have hd : alkB (k + 1 + 4) (.tuple [.str sPro, lotD p, a, bad]) = true := alk_4 sP alp ala hA
        refine ⟨.tuple [.str sPro, lotD p, a, bad], there, S3, f_rt rfl (b_rt (s_ite_t (e_and_t (e_cmp (e_idx (e_var rfl) e_lit rfl) e_lit c_ppE) (e_cmp (e_callT rfl (ea2 (e_var rfl) e_lit) q1) e_lit (c_gt_t (by omega))))
          (b_nx (s_set (e_comp (ei_seq (e_var rfl) rfl) hc))
          (b_nx (s_set (e_comp (ei_seq (e_var rfl) rfl) (rest_compJ (p := p) (fun l => e_cmp (e_var rfl) (e_var rfl) (c_nmemLs l _)) fun l => e_var rfl)))
          (b_nx (s_ite_f (e_cmp (u := false) (e_callT rfl (ea2 (e_var rfl) e_lit) q2) e_lit (c_eqI_f hu)) b_nil)
            (b_nx (s_unp (e_callT rfl (ea_cons (e_var rfl) (ea4 (e_var rfl) (e_var rfl) (e_idx (e_var rfl) e_lit rfl) (e_bin (e_var rfl) (e_tup rfl (ea1 e_lit) (szR rfl)) (add_way way 1 (by omega))))) q3) rfl)
            (b_rt (s_ret (e_tup rfl (ea2 (e_tup rfl (ea4 e_lit (e_idx (e_var rfl) e_lit rfl) (e_idx (e_var rfl) e_lit rfl) (e_var rfl)) (szR rfl)) (e_var rfl)) (szR rfl)))))))))), R3, bd_right (by omega) (by omega) (by omega) hp hl h0 h1 (alk_le (by omega) hd) (fun l hl => (hr l hl).2) ha hB, hd, by omega⟩
    · obtain ⟨bad, S', hb', R, hB, hA⟩ := odd_flat (dl := dl) (lq := lq) (n := n) (k := k + 1) (way := way) hT hk hk2 t1 t2 hr R1
      exact ⟨bad, way, S', f_rt rfl (b_nx (s_ite_f (e_and_t (e_cmp (e_idx (e_var rfl) e_lit rfl) e_lit c_ppE) (e_cmp (e_callT rfl (ea2 (e_var rfl) e_lit) q1) e_lit (c_gt_f (by omega)))) b_nil) hb'), R, hB, hA, by omega⟩
end Pb
end

section
set_option Elab.async false
set_option linter.all false
set_option maxRecDepth 100000
set_option maxHeartbeats 1000000
/-! Sorted by keys; trees read. -/
namespace Pb
open PySem
variable {dl : FD} {lq : Nat → PySem.Addr → List (PySem.Addr × L2.HO) → Prop}
variable {n : Nat} {pu : Bool} {S : List SO} {ns : List Int}
variable {t : Nat} {ls : List (List Int)} {way : List Int} {d : D} {w k : Nat} {due : List (List Int × Nat)}
theorem klt_cons (x y : Int) (a b : List Int) : klt (x :: a) (y :: b) = true ↔ x < y ∨ (x = y ∧ klt a b = true) := by
  show (decide (x < y) || (decide (x = y) && klt a b)) = true ↔ _
  simp
theorem klt_trans : ∀ {a b c : List Int}, klt a b = true → klt b c = true → klt a c = true
  | [], [], c, h, _ => by cases h
  | [], y :: b, [], _, h => by cases h
  | [], y :: b, z :: c, _, _ => rfl
  | x :: a, [], c, h, _ => by cases h
  | x :: a, y :: b, [], _, h => by cases h
  | x :: a, y :: b, z :: c, h, h2 => by
    rw [klt_cons] at *
    rcases h with h | ⟨rfl, h⟩
    · rcases h2 with h2 | ⟨rfl, h2⟩
      · exact .inl (by omega)
      · exact .inl h
    · rcases h2 with h2 | ⟨rfl, h2⟩
      · exact .inl h2
      · exact .inr ⟨rfl, klt_trans h h2⟩
theorem klt_tot : ∀ {a b : List Int}, a ≠ b → klt a b ≠ true → klt b a = true
  | [], [], h, _ => absurd rfl h
  | [], y :: b, _, h => absurd rfl h
  | x :: a, [], _, _ => rfl
  | x :: a, y :: b, h, h2 => by
    have h2 := fun z => h2 ((klt_cons _ _ _ _).mpr z)
    rw [klt_cons]
    by_cases e : x = y
    · subst e
      exact .inr ⟨rfl, klt_tot (fun e => h (by rw [e])) fun e => h2 (.inr ⟨rfl, e⟩)⟩
    · exact .inl (by
        have : ¬ x < y := fun z => h2 (.inl z)
        omega)
theorem mem_insK (p x : List Int × D) : ∀ r, x ∈ insK p r ↔ x = p ∨ x ∈ r
  | [] => by simp [insK]
  | q :: r => by
    unfold insK
    split
    · simp
    · rw [List.mem_cons, mem_insK p x r, List.mem_cons]
      constructor
      · rintro (h | h | h)
        · exact .inr (.inl h)
        · exact .inl h
        · exact .inr (.inr h)
      · rintro (h | h | h)
        · exact .inr (.inl h)
        · exact .inl h
        · exact .inr (.inr h)
theorem len_insK (p : List Int × D) : ∀ r, (insK p r).length = r.length + 1
  | [] => rfl
  | q :: r => by
    unfold insK
    split
    · rfl
    · rw [List.length_cons, len_insK p r, List.length_cons]
theorem upK_cons (p : List Int × D) (r : List (List Int × D)) : upK (p :: r) = true ↔ (∀ q ∈ r, klt p.1 q.1 = true) ∧ upK r = true := by
  show (r.all (fun q => klt p.1 q.1) && upK r) = true ↔ _
  rw [Bool.and_eq_true, List.all_eq_true]
theorem up_ins (p : List Int × D) : ∀ r, upK r = true → (∀ q ∈ r, q.1 ≠ p.1) → upK (insK p r) = true
  | [], _, _ => rfl
  | q :: r, h, hn => by
    have h' := (upK_cons q r).mp h
    unfold insK
    split
    · rename_i hk
      refine (upK_cons _ _).mpr ⟨fun x hx => ?_, h⟩
      rcases List.mem_cons.mp hx with rfl | hx
      · exact hk
      · exact klt_trans hk (h'.1 x hx)
    · rename_i hk
      refine (upK_cons _ _).mpr ⟨fun x hx => ?_, up_ins p r h'.2 fun x hx => hn x (by simp [hx])⟩
      rcases (mem_insK p x r).mp hx with rfl | hx
      · exact klt_tot (fun e => hn q (by simp) e.symm) (by simpa using hk)
      · exact h'.1 x hx
theorem mem_sortK (x : List Int × D) : ∀ r, x ∈ sortK r ↔ x ∈ r
  | [] => Iff.rfl
  | p :: r => by
    show x ∈ insK p (sortK r) ↔ _
    rw [mem_insK, mem_sortK x r, List.mem_cons]
theorem len_sortK : ∀ r, (sortK r).length = r.length
  | [] => rfl
  | p :: r => by
    show (insK p (sortK r)).length = _
    rw [len_insK, len_sortK r, List.length_cons]
theorem up_sort : ∀ r : List (List Int × D), (r.map (·.1)).Nodup → upK (sortK r) = true
  | [], _ => rfl
  | p :: r, h => by
    rw [List.map_cons, List.nodup_cons] at h
    exact up_ins p (sortK r) (up_sort r h.2) fun q hq e => h.1 (List.mem_map.mpr ⟨q, (mem_sortK q r).mp hq, e⟩)
theorem ints_of (l : List Int) : D.ints (l.map .int) = some l := by
  induction l with
  | nil => rfl
  | cons x l ih =>
    show (D.ints (l.map .int)).map (x :: ·) = _
    rw [ih]
    rfl
def keyT (p : List Int × Nat) : List Int := (p.1.length : Int) :: p.1
theorem keyed_due : ∀ due : List (List Int × Nat), keyed .fst (due.map pairT) = some (due.map fun p => (keyT p, pairT p))
  | [] => rfl
  | p :: due => by
    have h : keyI .fst (pairT p) = some (keyT p) := by
      show (D.ints (p.1.map .int)).map (fun ns => ((p.1.map D.int).length : Int) :: ns) = _
      rw [ints_of, List.length_map]
      rfl
    show (match keyI .fst (pairT p), keyed .fst (due.map pairT) with | some i, some r => some ((i, pairT p) :: r) | _, _ => none) = _
    rw [h, keyed_due due]
    rfl
theorem sort_due (hn : (due.map (·.1)).Nodup) : ∃ ds, sortV .fst (.list (due.map pairT)) = some (.own ds) ∧ ds.length = due.length ∧ ∀ x ∈ ds, ∃ p ∈ due, x = pairT p := by
  have hk : ((due.map fun p => (keyT p, pairT p)).map (·.1)).Nodup := by
    rw [List.map_map]
    show (due.map fun p => keyT p).Nodup
    rw [show (fun p : List Int × Nat => keyT p) = (fun l : List Int => ((l.length : Int) :: l)) ∘ (·.1) from rfl, ← List.map_map]
    exact List.Pairwise.map _ (fun a b h e => h (List.cons.inj e).2) hn
  refine ⟨(sortK (due.map fun p => (keyT p, pairT p))).map (·.2), ?_, ?_, fun x hx => ?_⟩
  · show (match keyed .fst (due.map pairT) with | some ps => if upK (sortK ps) then some (Out.own ((sortK ps).map (Prod.snd : List Int × D → D))) else none | none => none) = _
    rw [keyed_due]
    show (if upK (sortK (due.map fun p => (keyT p, pairT p))) = true then _ else _) = _
    rw [if_pos (up_sort _ hk)]
  · rw [List.length_map, len_sortK, List.length_map]
  · obtain ⟨y, hy, rfl⟩ := List.mem_map.mp hx
    obtain ⟨p, hp, rfl⟩ := List.mem_map.mp ((mem_sortK _ _).mp hy)
    exact ⟨p, hp, rfl⟩
theorem perm_two (f : List Int → Bool) : ∀ ls : List (List Int), ((ls.filter fun l => !f l) ++ ls.filter f).Perm ls
  | [] => .refl _
  | l :: ls => by
    have ih := perm_two f ls
    cases h : f l
    · simpa [List.filter_cons, h] using ih
    · rw [List.filter_cons_of_neg (by simp [h]), List.filter_cons_of_pos h]
      exact List.perm_middle.trans (ih.cons l)
theorem Tr.perm (h : Tr t ls d w due) : (due.map (·.1)).Perm ls := by
  induction h with
  | leaf => exact .refl _
  | @probe p ls a b w da db hp hl h0 h1 ha hb iha ihb =>
    rw [List.map_append]
    exact (iha.append ihb).trans (perm_two (meetB p) ls)
/-- counts of things, of bad ones, that the law draws -/
def Pr (t m : Nat) : Prop := (t = 2 ∧ m = 1) ∨ (t = 3 ∧ m = 1) ∨ (t = 3 ∧ m = 2) ∨ (t = 4 ∧ m = 1) ∨ (t = 2 ∧ m = 2) ∨ (t = 5 ∧ m = 1) ∨ (t = 3 ∧ m = 3) ∨ (t = 10 ∧ m = 1)
variable {m : Nat}
theorem pr_all (h : Pr t m) : callN (mkT dl lq) (n + 6) pu .all_lots [.int t, .int m] S = .ok (.own ((lotsL t m).map lotD)) S := by
  rcases h with ⟨rfl, rfl⟩ | ⟨rfl, rfl⟩ | ⟨rfl, rfl⟩ | ⟨rfl, rfl⟩ | ⟨rfl, rfl⟩ | ⟨rfl, rfl⟩ | ⟨rfl, rfl⟩ | ⟨rfl, rfl⟩
  · exact all_lots_ok (by omega) (by omega)
  · exact all_lots_ok (by omega) (by omega)
  · exact all_lots_ok (by omega) (by omega)
  · exact all_lots_ok (by omega) (by omega)
  · exact all_lots_ok (by omega) (by omega)
  · exact all_lots_ok (by omega) (by omega)
  · exact all_lots_ok (by omega) (by omega)
  · rw [call_all_lots]
    kernel_rfl
theorem pr_l (h : Pr t m) : callN (mkT dl lq) (n + 1) pu .l_lots [.int t, .int m] S = .ok (.own ((lotsL t m).map lotD)) S := by
  rcases h with ⟨rfl, rfl⟩ | ⟨rfl, rfl⟩ | ⟨rfl, rfl⟩ | ⟨rfl, rfl⟩ | ⟨rfl, rfl⟩ | ⟨rfl, rfl⟩ | ⟨rfl, rfl⟩ | ⟨rfl, rfl⟩
  · exact l_lots_ok (by omega) (by omega)
  · exact l_lots_ok (by omega) (by omega)
  · exact l_lots_ok (by omega) (by omega)
  · exact l_lots_ok (by omega) (by omega)
  · exact l_lots_ok (by omega) (by omega)
  · exact l_lots_ok (by omega) (by omega)
  · exact l_lots_ok (by omega) (by omega)
  · rw [call__law_lots]
    kernel_rfl
theorem pr_facts (h : Pr t m) : (1 ≤ t ∧ t ≤ 10 ∧ m ≤ 3) ∧ (1 ≤ (lotsL t m).length ∧ (lotsL t m).length ≤ 11) ∧ (lotsL t m).Nodup ∧ ∀ l ∈ lotsL t m, (l.Pairwise (· < ·) ∧ ∀ x ∈ l, 0 ≤ x ∧ x < (t : Int)) ∧ l.length ≤ 1000 := by
  rcases h with ⟨rfl, rfl⟩ | ⟨rfl, rfl⟩ | ⟨rfl, rfl⟩ | ⟨rfl, rfl⟩ | ⟨rfl, rfl⟩ | ⟨rfl, rfl⟩ | ⟨rfl, rfl⟩ | ⟨rfl, rfl⟩ <;> decide +kernel
theorem tree_counts_ok (h : Pr t m) : callN (mkT dl lq) (n + 3) pu .need_tree_counts [.int t, .int m] S = .ok (.v .non) S := by
  obtain ⟨⟨h1, h2, h3⟩, _⟩ := pr_facts h
  rw [call_need_tree_counts]
  exact f_nx rfl (b_nx (s_drop (e_callT rfl (ea3 (e_var rfl) e_lit e_lit) (need_count_ok (by omega) (by omega)))) (b_nx (s_drop (e_callT rfl (ea3 (e_var rfl) e_lit e_lit) (need_count_ok (by omega) (by omega)))) b_nil))
theorem read_ok (hp : Pr t m) (h : Tr t (lotsL t m) d 0 due) {ds : List D} (hs : sortV .fst (.list (due.map pairT)) = some (.own ds)) : callN (mkT dl lq) (n + 16) pu .read_tree [.int t, .int m, d] S = .ok (.own ds) S := by
  obtain ⟨_, ⟨_, h11⟩, _, hr⟩ := pr_facts hp
  rw [call_read_tree]
  have q := walked_ok (dl := dl) (lq := lq) (S := S) h 11 (n + 1) true [] h11 (by omega) rfl (by omega) fun l hl => (hr l hl).2
  exact f_rt rfl (b_nx (s_drop (e_callT rfl (ea2 (e_var rfl) (e_var rfl)) (tree_counts_ok (n := n + 12) hp)))
    (b_nx (s_set (e_callT rfl (ea4 (e_var rfl) (e_prim (p := .tupOf) (o := .v (probesD (lotsL t m))) (ea1 (e_callT rfl (ea2 (e_var rfl) (e_var rfl)) (pr_all (n := n + 9) hp))) rfl) (e_var rfl) (e_tup rfl ea_nil (szR rfl))) q))
    (b_rt (s_ret (e_sort (e_var rfl) hs)))))
theorem read_x (hp : Pr t m) {there : List Int} (h : Bd dl lq t (lotsL t m) 11 d [] there) : callN (mkT dl lq) (n + 16) pu .read_tree [.int t, .int m, d] S = .exc ⟨.badTree, [lotD there]⟩ S := by
  rw [call_read_tree]
  exact x_f (rs := .exc ⟨.badTree, [lotD there]⟩ S) rfl (b_nx (s_drop (e_callT rfl (ea2 (e_var rfl) (e_var rfl)) (tree_counts_ok (n := n + 12) hp)))
    (x_b (s_setx (e_callx rfl (ea4 (e_var rfl) (e_prim (p := .tupOf) (o := .v (probesD (lotsL t m))) (ea1 (e_callT rfl (ea2 (e_var rfl) (e_var rfl)) (pr_all (n := n + 9) hp))) rfl) (e_var rfl) (e_tup rfl ea_nil (szR rfl))) (h (n + 1) true S))) co_ex)) rfl
end Pb
end

section
set_option Elab.async false
set_option linter.all false
set_option maxRecDepth 100000
set_option maxHeartbeats 1000000
namespace Pk
open PySem Pb
variable {n : Nat} {pu : Bool} {S : List SO} {ns : List Int}
abbrev lo0 : Nat → Addr → List (Addr × L2.HO) → Prop := fun _ _ _ => False
def turnB : CB := forB (nthB d_law.body 1)
noncomputable abbrev Lw (n : Nat) : Lk := lk Tt (n + 20) false
variable {c0 c1 c2 c3 c4 c5 c6 c7 c8 c9 c10 c11 : Sl}
theorem seg_twice {t m : Nat} {d : D} {due : List (List Int × Nat)} {ds : List D} (hp : Pr t m) (h : Tr t (lotsL t m) d 0 due) (hs : sortV .fst (.list (due.map pairT)) = some (.own ds)) (ha : alkB 3 (.list ds) = true) (hl : ds.length ≤ 1000) (xs : List D) : ∃ a b, forGo (fF (Lw n) (.var 8) (forB (nthB turnB 3))) xs [c0, c1, c2, .v (.int t), .v (.int m), c5, .v d, .v (.list (due.map pairT)), c8, c9, c10, c11] S = .ok (.nx [c0, c1, c2, .v (.int t), .v (.int m), c5, .v d, .v (.list (due.map pairT)), a, b, c10, c11]) S := by
  obtain ⟨r', S', hf, rfl, a, b, rfl⟩ := for_inv (f := fF (Lw n) (.var 8) (forB (nthB turnB 3))) (items := xs) (r := [c0, c1, c2, .v (.int t), .v (.int m), c5, .v d, .v (.list (due.map pairT)), c8, c9, c10, c11]) (S := S)
    (fun k r S' => S' = S ∧ ∃ a b, r = [c0, c1, c2, .v (.int t), .v (.int m), c5, .v d, .v (.list (due.map pairT)), a, b, c10, c11]) (fun k x r S' hx hP => by
    obtain ⟨rfl, a, b, rfl⟩ := hP
    have q1 := read_ok (dl := d_law) (lq := lo0) (n := n + 4) (pu := true) (S := S') hp h hs
    have q2 := alike_ok (dl := d_law) (lq := lo0) 3 (.list ds) (n + 16) true S' ha
    exact ⟨_, _, ff_in rfl (b_nx (s_setO (e_callT (p := true) rfl (ea3 (e_var rfl) (e_var rfl) (e_var rfl)) q1))
      (b_nx (s_ite_f (e_not (u := true) (e_callbT (ea2 (e_bor rfl) (e_sort (e_var rfl) hs)) q2 rfl)) b_nil)
      (b_nx (s_app rfl (e_tup rfl ea_nil (szR rfl)) (by rw [sizeLine_eq]; omega)) b_nil))), rfl, .v x, .own (ds ++ [.tuple []]), rfl⟩) ⟨rfl, c8, c9, rfl⟩
  exact ⟨a, b, hf⟩
def RowR (ns : List Int) (r : Rho) : Prop := ∃ c2 c3 c4 c5 c6 c7 c8 c9 c10 c11, r = [.v (.scr ns), .v (.loc 0), c2, c3, c4, c5, c6, c7, c8, c9, c10, c11]
theorem alk_sorted {t : Nat} {ls : List (List Int)} {d : D} {w : Nat} {due : List (List Int × Nat)} (h : Tr t ls d w due) (hr : ∀ l ∈ ls, l.length ≤ 1000) {ds : List D} (hl : ds.length ≤ 1000) (hd : ∀ x ∈ ds, ∃ p ∈ due, x = pairT p) : alkB 3 (.list ds) = true := alk_lst (k := 2) (by omega) fun x hx => by
  obtain ⟨p, hp, rfl⟩ := hd x hx
  have : p.1 ∈ ls := h.perm.mem_iff.mp (List.mem_map.mpr ⟨p, hp, rfl⟩)
  exact alk_2 (k := 1) (alk_lot _ (by have := hr _ this; omega)) (alk_int _ _)
theorem turn_ok (x : D) {r : Rho} (hr : RowR ns r) (hS : RowOk ns S) : ∃ r' S', fF (Lw n) (.var 2) turnB x r S = .ok (.nx r') S' ∧ RowR ns r' ∧ RowOk ns S' := by
  obtain ⟨c2, c3, c4, c5, c6, c7, c8, c9, c10, c11, rfl⟩ := hr
  obtain ⟨v, S1, h1, R1, v0, v1⟩ := l_taken_ok (dl := d_law) (lq := lo0) (n := n + 19) (many := 8) (by omega) (by omega) hS
  obtain ⟨t, m, hp, hix⟩ : ∃ t m : Nat, Pr t m ∧ idxV S1 (.list [.tuple [.int 2, .int 1], .tuple [.int 3, .int 1], .tuple [.int 3, .int 2], .tuple [.int 4, .int 1], .tuple [.int 2, .int 2], .tuple [.int 5, .int 1], .tuple [.int 3, .int 3], .tuple [.int 10, .int 1]]) (.int v) = some (.tuple [.int t, .int m]) := by
    have hv : v = 0 ∨ v = 1 ∨ v = 2 ∨ v = 3 ∨ v = 4 ∨ v = 5 ∨ v = 6 ∨ v = 7 := by omega
    rcases hv with rfl | rfl | rfl | rfl | rfl | rfl | rfl | rfl
    · exact ⟨2, 1, .inl ⟨rfl, rfl⟩, rfl⟩
    · exact ⟨3, 1, .inr (.inl ⟨rfl, rfl⟩), rfl⟩
    · exact ⟨3, 2, .inr (.inr (.inl ⟨rfl, rfl⟩)), rfl⟩
    · exact ⟨4, 1, .inr (.inr (.inr (.inl ⟨rfl, rfl⟩))), rfl⟩
    · exact ⟨2, 2, .inr (.inr (.inr (.inr (.inl ⟨rfl, rfl⟩)))), rfl⟩
    · exact ⟨5, 1, .inr (.inr (.inr (.inr (.inr (.inl ⟨rfl, rfl⟩))))), rfl⟩
    · exact ⟨3, 3, .inr (.inr (.inr (.inr (.inr (.inr (.inl ⟨rfl, rfl⟩)))))), rfl⟩
    · exact ⟨10, 1, .inr (.inr (.inr (.inr (.inr (.inr (.inr ⟨rfl, rfl⟩)))))), rfl⟩
  obtain ⟨⟨t1, t2, m3⟩, ⟨l1, l2⟩, hn, hr⟩ := pr_facts hp
  have hr : ∀ l ∈ lotsL t m, Rise t l ∧ l.length ≤ 1000 := fun l hl => ⟨⟨(hr l hl).1.1, (hr l hl).1.2⟩, (hr l hl).2⟩
  obtain ⟨d, due, S2, h2, R2, hT⟩ := drawn_ok (dl := d_law) (lq := lo0) 11 (lotsL t m) [] (n + 6) S1 l1 l2 (by omega) (by simp) hn hr t2 R1
  obtain ⟨ds, hs, hdl, hdm⟩ := sort_due (due := due) (hT.perm.nodup_iff.mpr hn)
  have hlen : ds.length ≤ 1000 := by rw [hdl, hT.len]; omega
  obtain ⟨a, b, hf⟩ := seg_twice (n := n) (S := S2) (c0 := .v (.scr ns)) (c1 := .v (.loc 0)) (c2 := .v x) (c5 := .v (.list ((lotsL t m).map lotD))) (c8 := c8) (c9 := c9) (c10 := c10) (c11 := c11) hp hT hs (alk_sorted hT (fun l hl => (hr l hl).2) hlen hdm) hlen [.int 0, .int 1]
  obtain ⟨bad, there, S3, h3, R3, hB, hA, hL⟩ := odd_ok (dl := d_law) (lq := lo0) hT 11 (n + 6) S2 [] l2 (by omega) rfl (by simp) t1 t2 hr R2
  have q4 := read_x (dl := d_law) (lq := lo0) (n := n + 4) (pu := false) (S := S3) hp hB
  have q5 := alike_ok (dl := d_law) (lq := lo0) 2 (.tuple [.str "tree", lotD there]) (n + 17) false S3 (alk_2 (k := 1) (alk_str _ (by kernel_rfl)) (alk_lot _ (by simp at hL; omega)))
  exact ⟨_, S3, ff_in rfl (b_nx (s_unp (e_idx (e_lst rfl (ea_cons (e_tup rfl (ea2 e_lit e_lit) (szR rfl)) (ea_cons (e_tup rfl (ea2 e_lit e_lit) (szR rfl)) (ea_cons (e_tup rfl (ea2 e_lit e_lit) (szR rfl)) (ea_cons (e_tup rfl (ea2 e_lit e_lit) (szR rfl)) (ea_cons (e_tup rfl (ea2 e_lit e_lit) (szR rfl)) (ea_cons (e_tup rfl (ea2 e_lit e_lit) (szR rfl)) (ea_cons (e_tup rfl (ea2 e_lit e_lit) (szR rfl)) (ea1 (e_tup rfl (ea2 e_lit e_lit) (szR rfl)))))))))) (szR rfl)) (e_callT rfl (ea2 (e_var rfl) e_lit) h1) hix) rfl)
    (b_nx (s_set (e_callT rfl (ea2 (e_var rfl) (e_var rfl)) (pr_l (n := n + 19) hp)))
    (b_nx (s_unp (e_callT rfl (ea4 (e_var rfl) (e_var rfl) (e_var rfl) (e_tup rfl ea_nil (szR rfl))) h2) rfl)
    (b_nx (s_for (ei_rng (ea1 e_lit) rfl) hf)
    (b_nx (s_unp (e_callT rfl (ea_cons (e_var rfl) (ea4 (e_var rfl) (e_var rfl) (e_var rfl) (e_tup rfl ea_nil (szR rfl)))) h3) rfl)
    (b_nx (s_ite_f (e_not (u := true) (e_callT rfl (ea2 (e_wordx (e_callx rfl (ea3 (e_var rfl) (e_var rfl) (e_var rfl)) q4) rfl) (e_tup rfl (ea2 e_lit (e_var rfl)) (szR rfl))) q5)) b_nil) b_nil)))))), ⟨_, _, _, _, _, _, _, _, _, _, rfl⟩, R3⟩
theorem main : MainP := fun ns _ _ => by
  obtain ⟨S1, h1, R1⟩ := l_row_ok (dl := d_law) (lq := lo0) (n := 38) ns
  obtain ⟨r', S', hf, _, _⟩ := for_inv (f := fF (Lw 19) (.var 2) turnB) (items := [.int 0, .int 1, .int 2]) (r := [.v (.scr ns), .v (.loc 0), .un, .un, .un, .un, .un, .un, .un, .un, .un, .un]) (S := S1)
    (fun k r S' => RowR ns r ∧ RowOk ns S') (fun k x r S' hx hP => turn_ok x hP.1 hP.2) ⟨⟨_, _, _, _, _, _, _, _, _, _, rfl⟩, R1⟩
  refine ⟨S', ?_⟩
  rw [call_law]
  exact f_rt rfl (b_nx (s_set (e_callT rfl (ea1 (e_var rfl)) h1)) (b_nx (s_for (ei_rng (ea1 e_lit) rfl) hf) (b_rt (s_ret e_lit))))
end Pk
end

open PySem PySem.W PySem.Calls PyProof.Rows
set_option maxHeartbeats 0 in
theorem PySem.Challenge.cw_probelots_k09_trees_read_holds : PySem.Challenge.rw_probelots_k09_trees_read.Holds := by
  w_on; o_law
  refine HandSHeadRun.head_any (r := OpenLaw.row PySem.Challenge.rw_probelots_k09_trees_read) (q := view (OpenLaw.row PySem.Challenge.rw_probelots_k09_trees_read).prog [35]) (H := Pk.hkk) (ob := Pk.obb) (M := 4000) (loose := Pk.loose) (d := HandSHeadRun.topDef (OpenLaw.row PySem.Challenge.rw_probelots_k09_trees_read).prog 35) (kwd := []) Pk.obb_eq
    (by kernel_rfl) (fun s => by kernel_rfl) Pk.runT (by kernel_rfl) (by kernel_rfl) (by kernel_rfl) (by rfl) (by first | assumption | decide +kernel) (by decide +kernel) ⟨rfl, rfl, rfl, rfl, rfl, by decide +kernel⟩ ?hw ?hc
  case hw => w_witness2
  case hc =>
    refine LamX.walk_ofTsE (l := PySem.Challenge.rw_probelots_k09_trees_read) (n := 63) (k := 120) (x := "_law_script") (CX := fun w => L2.CX PySem.Challenge.rw_probelots_k09_trees_read.prog w) rfl (by decide) (by kernel_rfl) ⟨rfl, by decide, by decide⟩ ?F ?C
    case F =>
      intro w mg fa h Y G hmg0
      obtain ⟨K, KX, c⟩ := Y
      have hmg : mg ("law" : PySem.Str) = some (.ref fa) := by
        have e : (HandSHeadRun.topDef (OpenLaw.row PySem.Challenge.rw_probelots_k09_trees_read).prog 35).name = ("law" : PySem.Str) := by kernel_rfl
        rw [← e]
        exact hmg0
      exact ⟨K, KX, Pk.law_at Pk.main KX G hmg c⟩
    case C =>
      rintro w H s e s' ⟨_, _, _, _, _, _, _, _, _, _, _, _, z⟩
      exact z

