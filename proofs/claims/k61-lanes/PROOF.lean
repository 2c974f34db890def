import PyProof.Rows.All
import Wide.All
import OpenK.AllK
import Wide.FinOn
import HandS.TupMul
import PyProof.Draws
import PyProof.EnumMake
import HandS.Zip0
import HandS.Iter
import PySem.Builtin.Int.W1All
import PyProof.ReprReads
import HandS.ForMost
import HandS.ForExc
import HandS.Wide
import HandS.HotCalls
import HandS.TupAny
import HandS.IsInst
import HandS.More
import HandS.Flow
import HandS.Style
import HandS.Zip
import HandS.Strs
import HandS.DictComp
import HandS.ExcIs
import HandS.Words
import HandS.WordsExc
import HandS.Defaults
import HandS.Head0
import HandS.Head1
import HandS.Head2
import HandS.HeadEnd
import HandS.HeadHook1
import HandS.HeadHook2
import HandS.HeadHook3
import HandS.HeadHook4
import PySem.Challenge.RW_drawloom_k61_lanes
import KE.BitLaws
set_option Elab.async false
set_option linter.all false
set_option autoImplicit false
set_option maxRecDepth 1000000
set_option maxHeartbeats 0
/-! DlU: a tuple times an int, once or never. -/
namespace L2
open PySem PySem.Spec PyProof.Rows
theorem tuple_mul1 (l : Addr) (items : Array Value) (n : Nat) (dd : Option Addr) (sl : Array (Option Value)) (x : Int) (u : Tok) (c0 : (decide (x < -(2 ^ 63)) || decide (x ≥ 2 ^ 63)) = false) (c1 : (items.isEmpty || x == 1) = true) :
    Meets (Builtin.«tuple.__mul__» ⟨[.ref l, .int x u], []⟩) (fun _ R s => s.heap.get? l = some { cls := .type "tuple", dict := dd, data := .seq items n, slots := sl } ∧
      R (.ok (.ret (Value.ref l))) s) :=
  .of_wp fun prog w A R s h => by
    obtain ⟨hp, g, d, tk, os⟩ := s
    obtain ⟨hl, h⟩ := h
    have f1 := AutoSeq1.idx_int
    wp_walk using wpAny_loadPart' hl
    repeat (first
      | (refine wpAny_ite_false (decide_eq_false (by rw [c0]; exact Bool.false_ne_true)) ?_; wp_walk using wpAny_loadPart' hl)
      | (refine wpAny_ite_true (decide_eq_true c1) ?_; wp_walk using wpAny_loadPart' hl))
    exact ⟨_, rfl, h⟩
theorem tuple_mul0 (l : Addr) (items : Array Value) (n : Nat) (dd : Option Addr) (sl : Array (Option Value)) (x : Int) (u : Tok) (c0 : (decide (x < -(2 ^ 63)) || decide (x ≥ 2 ^ 63)) = false) (c1 : (items.isEmpty || x == 1) = false) (c2 : (decide (x ≤ 0) || items.isEmpty) = true) :
    Meets (Builtin.«tuple.__mul__» ⟨[.ref l, .int x u], []⟩) (fun _ R s => s.heap.get? l = some { cls := .type "tuple", dict := dd, data := .seq items n, slots := sl } ∧
      R (.ok (.ret (Value.ref s.heap.objs.size))) { s with heap := s.heap.push { cls := Value.type "tuple", data := Data.seq #[] }, toks := s.toks }) :=
  .of_wp fun prog w A R s h => by
    obtain ⟨hp, g, d, tk, os⟩ := s
    obtain ⟨hl, h⟩ := h
    have f1 := AutoSeq1.idx_int
    wp_walk using wpAny_loadPart' hl
    repeat (first
      | (refine wpAny_ite_false (decide_eq_false (by rw [c0]; exact Bool.false_ne_true)) ?_; wp_walk using wpAny_loadPart' hl)
      | (refine wpAny_ite_false (decide_eq_false (by rw [c1]; exact Bool.false_ne_true)) ?_; wp_walk using wpAny_loadPart' hl)
      | (refine wpAny_ite_true (decide_eq_true c2) ?_; wp_walk using wpAny_loadPart' hl))
    exact ⟨_, rfl, h⟩
def rRepA (K : PySem.W.Frag) : R2 := fun x y H Q => ∃ l k xs, x = .ref l ∧ y = .int k ∧ SqT K H l xs ∧ k ≤ 1000 ∧ -1000 ≤ k ∧ xs.length ≤ 1000 ∧ ((k = 1 ∨ xs = []) → Q (.ref l) H) ∧ (¬ (k = 1 ∨ xs = []) → ∀ p, H p = none → Q (.ref p) (upd H p (.tup (List.replicate k.toNat xs).flatten)))
theorem op_repA {X : Cx} : OpR X (binaryOp .Mult) (rRepA X.K) := by
  intro pins s σ H x y v u Q I rx ry h
  obtain ⟨l, k, xs, rfl, rfl, hT, h2, h1, hz, q1, q2⟩ := h
  by_cases hk : 2 ≤ k ∧ xs ≠ []
  · exact op_repT pins s σ H _ _ v u Q I rx ry ⟨l, k, xs, rfl, rfl, hT, hk.2, hk.1, h2, hz, q2 (by rintro (e | e); omega; exact hk.2 e)⟩
  cases rx
  obtain ⟨t, rfl⟩ := ry
  obtain ⟨its, r, ⟨⟨cls, dd, data, sl⟩, ho, hc, n, hd⟩, hs⟩ := I.tuple hT
  simp only at hc hd
  subst hc hd
  have hle : its.length = xs.length := r.length.symm
  have c0 : (decide (k < -(2 ^ 63)) || decide (k ≥ 2 ^ 63)) = false := by
    rw [decide_eq_false (by omega), decide_eq_false (by omega)] <;> rfl
  by_cases h1 : k = 1 ∨ xs = []
  · have c1 : (its.toArray.isEmpty || k == 1) = true := by
      rcases h1 with rfl | rfl
      · simp
      · have : its = [] := List.eq_nil_of_length_eq_zero hle
        subst this; rfl
    refine wpAny_binaryOp_repeat_ref (T := "tuple") (U := "int") (by decide) ⟨_, ho, rfl⟩ (fun s' => typeIs_int s' k t) noFill_tuple_mul F.fills_int_mul F.slot_int_rmul repeat_tuple F.slot_int_index.lookup
      (call_meets F.slot_int_rmul (typeIs_int s k t) F.entry_int_rmul (F.args_int_rmul_2 _ _) (int_rmul_tuple k t l its.toArray n dd sl)
        ⟨ho, rfl, ⟨_, ho, rfl⟩, call_meets F.slot_tuple_mul ⟨_, ho, rfl⟩ F.entry_tuple_mul (F.args_tuple_mul_2 _ _) (tuple_mul1 l its.toArray n dd sl k t c0 c1) ⟨ho, ?_⟩⟩)
    exact ⟨.ref l, H, I, rfl, q1 h1⟩
  · have hn : its ≠ [] := fun e => h1 (.inr (by
      rw [e] at hle
      exact List.eq_nil_of_length_eq_zero hle.symm))
    have hx : xs ≠ [] := fun e => h1 (.inr e)
    have hk0 : k ≤ 0 := by
      have : k ≠ 1 := fun e => h1 (.inl e)
      have : ¬ 2 ≤ k := fun e => hk ⟨e, hx⟩
      omega
    have hi : its.toArray.isEmpty = false := by
      cases its with
      | nil => exact absurd rfl hn
      | cons a b => rfl
    have c1 : (its.toArray.isEmpty || k == 1) = false := by
      rw [hi, Bool.false_or]
      exact beq_eq_false_iff_ne.mpr (by omega)
    have c2 : (decide (k ≤ 0) || its.toArray.isEmpty) = true := by
      rw [decide_eq_true hk0]; rfl
    have e0 : k.toNat = 0 := by omega
    refine wpAny_binaryOp_repeat_ref (T := "tuple") (U := "int") (by decide) ⟨_, ho, rfl⟩ (fun s' => typeIs_int s' k t) noFill_tuple_mul F.fills_int_mul F.slot_int_rmul repeat_tuple F.slot_int_index.lookup
      (call_meets F.slot_int_rmul (typeIs_int s k t) F.entry_int_rmul (F.args_int_rmul_2 _ _) (int_rmul_tuple k t l its.toArray n dd sl)
        ⟨ho, rfl, ⟨_, ho, rfl⟩, call_meets F.slot_tuple_mul ⟨_, ho, rfl⟩ F.entry_tuple_mul (F.args_tuple_mul_2 _ _) (tuple_mul0 l its.toArray n dd sl k t c0 c1 c2) ⟨ho, ?_⟩⟩)
    have q3 := q2 h1
    rw [e0] at q3
    refine ⟨.ref s.heap.objs.size, _, I.laid (t' := s.toks) (o := .tup []) (fun b ob q => Heap.get?_push_of_some _ q) (Nat.le_refl _) ?_, rfl, q3 _ (I.hok.fresh (Nat.le_refl _))⟩
    exact ⟨by rw [sizeLine_eq]; decide, [], .nil, IsTup.new _ _⟩
end L2

/-! ### enumerate over a tuple (Dl: walks) -/
namespace DlU
open PySem L2 PySem.Spec PyProof.Rows
open AutoSeq1 (wpAny_loadPart')
theorem meets_enumerate_newT (l : Addr) (items : Array Value) (n : Nat) (dct : Option Addr) (sl : Array (Option Value)) :
    Meets (Builtin.«enumerate.__new__» ⟨[.type "enumerate", .ref l], []⟩) (fun _ R s => s.heap.get? l = some { cls := .type "tuple", dict := dct, data := .seq items n, slots := sl } ∧
      R (.ok (.ret (.ref (s.heap.push { cls := .type "tuple_iterator", data := .fields #[.ref l, .int 0 0] }).objs.size)))
        { s with heap := (s.heap.push { cls := .type "tuple_iterator", data := .fields #[.ref l, .int 0 0] }).push { cls := .type "enumerate", data := .fields #[.none, .bool false, .ref s.heap.objs.size, rawInt 0, .none, .none] } }) :=
  .of_wp fun prog w A R s h => by
    obtain ⟨hp, g, d, tk, os⟩ := s; obtain ⟨hl, h⟩ := h
    have hsub := sub_enumerate
    have hL : Heap.IsTuple (Shared.heap ⟨hp, g, d, tk, os⟩) l items := ⟨_, hl, rfl, n, rfl⟩
    wp_walk using wpAny_loadPart' hl
    refine wpAny_stack_any fun st => wpAny_pure ?_
    split
    · rename_i c _ _ _ _ _
      cases (c == Value.type "enumerate")
      · wp_walk using wpAny_loadPart' hl, wpAny_pyIter_tuple hL
        exact ⟨_, rfl, h⟩
      · wp_walk using wpAny_loadPart' hl, wpAny_pyIter_tuple hL
        exact ⟨_, rfl, h⟩
    · wp_walk using wpAny_loadPart' hl, wpAny_pyIter_tuple hL
      exact ⟨_, rfl, h⟩
section
variable {prog : Program} {w : World} {A : Around} {E : Value → Shared → Prop} {s : Shared}
theorem call_enumerate_tuple {l : Addr} {items : Array Value} {Q : Value → Shared → Prop} (hL : s.heap.IsTuple l items)
    (h : ∀ h', IsEnum h' (s.heap.objs.size + 1) s.heap.objs.size 0 .none → h'.IsTupleIter s.heap.objs.size l 0 → h'.objs.size = s.heap.objs.size + 2 →
      (∀ b o, s.heap.get? b = some o → h'.get? b = some o) → Q (.ref (s.heap.objs.size + 1)) { s with heap := h' }) :
    wpAny (model prog w) A (call (.type "enumerate") [.ref l]) Q E s := by
  obtain ⟨⟨c, dct, dt, sl⟩, hl, hc, n, hd⟩ := hL
  replace hc : c = .type "tuple" := hc
  replace hd : dt = .seq items n := hd
  subst hc hd
  refine callType_new F.called_enumerate (by decide) (F.typeCall_enumerate_1 _) (F.newCall_enumerate_1 _) (fun obj => F.args_object_init_2 obj _) F.entry_enumerate_new
    (meets_enumerate_newT l items n dct sl) ⟨hl, ?_⟩
  have hz : (s.heap.push { cls := .type "tuple_iterator", data := .fields #[.ref l, .int 0 0] }).objs.size = s.heap.objs.size + 1 := Heap.size_push ..
  show _ ∧ _
  rw [hz]
  have he : IsEnum ((s.heap.push { cls := .type "tuple_iterator", data := .fields #[.ref l, .int 0 0] }).push
      { cls := .type "enumerate", data := .fields #[.none, .bool false, .ref s.heap.objs.size, rawInt 0, .none, .none] }) (s.heap.objs.size + 1) s.heap.objs.size 0 .none := by
    have := Heap.get?_push_size (s.heap.push { cls := .type "tuple_iterator", data := .fields #[.ref l, .int 0 0] })
      (o := { cls := .type "enumerate", data := .fields #[.none, .bool false, .ref s.heap.objs.size, rawInt 0, .none, .none] }) rfl
    rw [hz] at this; exact this
  refine ⟨⟨_, he, rfl⟩, h _ he ⟨_, Heap.get?_push_of_some _ (Heap.get?_push_size _ rfl), rfl, rfl⟩ (by rw [Heap.size_push, hz]) fun b o x => Heap.get?_push_of_some _ (Heap.get?_push_of_some _ x)⟩
end
theorem drawsT {prog : Program} {w : World} {A : Around} (hh : A.handled = none) (it l : Addr) (hne : l ≠ it) (items : Array Value) :
    Draws prog w A it [it, l] items.size (fun i v => items[i]? = some v) (fun i h => h.IsTupleIter it l i ∧ h.IsTuple l items) where
  live := fun _ _ st => let ⟨o, ho, _⟩ := st.1; ⟨o, ho⟩
  frame := fun _ _ _ st hk => ⟨let ⟨o, ho, r⟩ := st.1; ⟨o, hk it (by simp) o ho, r⟩, let ⟨o, ho, r⟩ := st.2; ⟨o, hk l (by simp) o ho, r⟩⟩
  item := fun i s Q E hi st hQ => by
    refine RZ.nextOf_tuple_item st.1 st.2 (x := items[i]) (by simp [hi]) fun h' hit' hs' => ?_
    exact hQ _ h' s.toks (by simp [hi]) ⟨hit', st.2.extBut hs'.extBut hne⟩ hs'
  done := fun s Q E st hE => RZ.nextOf_tuple_end hh st.1 st.2 (by simp) hE
/-- a tuple's items, each in a new pair -/
def IteT (K : PySem.W.Frag) (a : Addr) : It :=
  ⟨fun i H => ∃ (xs : List V) (x : V), SqT K H a xs ∧ xs[i]? = some x, fun i H v H' => ∃ T x, v = .ref T ∧ H T = none ∧ H' = upd H T (.tup [.int (i : Nat), x]) ∧ ∀ xs, SqT K H a xs → xs[i]? = some x, fun i H => ∃ xs : List V, SqT K H a xs ∧ xs.length ≤ i⟩
theorem apart {h : Heap} {e it a : Addr} {i : Int} {j : Nat} {old : Value} {items : Array Value} (he : IsEnum h e it i old) (hi : h.IsTupleIter it a j) (ht : h.IsTuple a items) : e ≠ a ∧ a ≠ it := by
  obtain ⟨o, h1, h2, _⟩ := ht
  obtain ⟨o', h3, h4, _⟩ := hi
  refine ⟨?_, ?_⟩
  · rintro rfl
    rw [show h.get? e = some _ from he] at h1
    cases h1
    have h3 : ("enumerate" : String) = "tuple" := by injection h2
    exact absurd h3 (by decide)
  · rintro rfl
    rw [h3] at h1
    cases h1
    rw [h4] at h2
    have h5 : ("tuple_iterator" : String) = "tuple" := by injection h2
    exact absurd h5 (by decide)
theorem enum_endT {prog : Program} {w : World} {A : Around} {E : Value → Shared → Prop} {s : Shared} {e it l : Addr} {i : Nat} {items : List Value} {old : Value} {Q : Option Value → Shared → Prop} (hh : A.handled = none)
    (he : IsEnum s.heap e it i old) (hit : s.heap.IsTupleIter it l i) (hl : s.heap.IsTuple l items.toArray) (hx : items[i]? = none)
    (hQ : ∀ h', Heap.ExtBut it s.heap h' → Q none { s with heap := h' }) : wpAny (model prog w) A (pyNext (.ref e)) Q E s := by
  have hT : s.TypeIs (.ref e) "enumerate" := ⟨_, he, rfl⟩
  unfold pyNext
  refine wpAny_bind (wpAny_attempt (wpAny_callSpecial?_slot (name := Str.ofString "__next__") hT F.slot_enumerate_next
    (wpAny_call_entry F.slot_enumerate_next hT F.entry_enumerate_next ?_ (F.args_enumerate_next_1 _))))
  show wpAny _ _ (field (.ref e) 2 >>= _) _ _ _
  refine wpAny_bind (wpAny_field he rfl (x := .ref it) rfl ?_)
  refine wpAny_bind (RZ.nextOf_tuple_end (show A.in1.handled = none from hh) hit hl (by simpa using hx) fun h' x he' hx' => ?_)
  obtain ⟨o, ho, hc⟩ := hx'
  refine wpAny_bind (wpAny_isInstance (T := "StopIteration") (b := true) ⟨o, ho, hc⟩ isSubtype_stop ?_)
  exact wpAny_pure (hQ _ he')
theorem turn_enumT {P : Program} {w : World} {K : PySem.W.Frag} {elts : List Expr} {kk : Nat} {tpos : Pos} (a e it : Addr) :
    Turn P w K (.Tuple elts kk tpos) (IteT K a) [e, it] e (fun i h => (∃ old, IsEnum h e it ((i : Nat) : Int) old) ∧ h.IsTupleIter it a i ∧ e ≠ it) where
  mem := by simp
  obj := fun i h st b hb => by
    obtain ⟨⟨old, he⟩, ⟨o, ho, hc, hd⟩, _⟩ := st
    have e' : b = e ∨ b = it := by simpa using hb
    rcases e' with z | z
    · rw [z]; exact ⟨_, he, fun v q => nomatch q⟩
    · rw [z]; exact ⟨o, ho, fun v q => by rw [hd] at q; cases q⟩
  keep := fun i h h' st k => let ⟨⟨old, he⟩, ⟨o, ho, r⟩, hne⟩ := st; ⟨⟨old, k e (by simp) _ he⟩, ⟨o, k it (by simp) o ho, r⟩, hne⟩
  item := by
    intro X hP hw hK hc i pins s σ H E I hf st hg
    subst hP hw hK
    obtain ⟨⟨old, he⟩, hit, hne⟩ := st
    obtain ⟨xs, x, hq, hx⟩ := hg
    obtain ⟨its, rv, p, hz⟩ := I.tuple hq
    have p : s.heap.IsTuple a its.toArray := p
    obtain ⟨u, hu, ru⟩ := rv.get hx
    obtain ⟨hea, hai⟩ := apart he hit p
    have hel : e < s.heap.objs.size := Heap.lt_size he
    have hil : it < s.heap.objs.size := by obtain ⟨_, q, _⟩ := hit; exact Heap.lt_size q
    have hlt : i < its.toArray.size := by have := (List.getElem?_eq_some_iff.mp hu).1; simpa using this
    refine wpAny_pyNext_enum_itemD (drawsT (show X.A.in1.handled = none from I.ok.hd hc) it a hai its.toArray) he ⟨hit, p⟩ hlt hne (by simp [hne, hea]) fun x' h' tk hP ho hst' hT hsz hk => ?_
    obtain rfl : x' = u := by
      have : its[i]? = some x' := by simpa using hP
      rw [hu] at this
      exact (Option.some.inj this).symm
    refine ⟨_, rfl, wpAny_letOwnedTupleGo_enum (s := { s with heap := h', toks := tk + 1 }) ho fun h'' he' sb => ?_⟩
    have hT2 : h''.get? s.heap.objs.size = some { cls := .type "tuple", data := .seq #[.int i tk, x'] } := (sb.2 _ (Nat.ne_of_gt hel)).trans hT
    have new : ObjOk X.prog X.w (upd H s.heap.objs.size (.tup [.int (i : Nat), x])) h'' s.heap.objs.size (.tup [.int (i : Nat), x]) :=
      ⟨by show 2 ≤ sizeLine; decide, [.int i tk, x'], .cons ⟨_, rfl⟩ (.cons ru .nil), ⟨_, hT2, rfl, _, rfl⟩⟩
    have I1 : Inv X pins σ (upd H s.heap.objs.size (.tup [.int (i : Nat), x])) { s with heap := h'', toks := tk + 1 } :=
      I.turnedNew (ch := [e, it]) (fun b ob hb q => (sb.2 b (fun z => hb (by simp [z]))).trans (hk b ob (fun z => hb (by simp [z])) (fun z => hb (by simp [z])) q)) hf (Nat.le_refl _) new
    refine ⟨.ref s.heap.objs.size, _, I1, rfl, ⟨_, x, rfl, I.hok.fresh (Nat.le_refl _), rfl, fun ys hy => by rw [I.tuple_inj hy hq]; exact hx⟩, ⟨⟨x', ?_⟩, ?_, hne⟩, fun b hb => ?_⟩
    · have e1 : ((i + 1 : Nat) : Int) = (i : Int) + 1 := by omega
      rw [e1]; exact he'
    · obtain ⟨o, ho', r⟩ := hst'.1
      exact ⟨o, (sb.2 it (Ne.symm hne)).trans ho', r⟩
    · have hb' : b < s.heap.objs.size := by
        have e' : b = e ∨ b = it := by simpa using hb
        rcases e' with z | z
        · rw [z]; exact hel
        · rw [z]; exact hil
      rw [upd_ne (Nat.ne_of_lt hb')]
      exact (hf b hb).1
  done := by
    intro X hP hw hK hc i pins s σ H E I hf st hg
    subst hP hw hK
    obtain ⟨⟨old, he⟩, hit, hne⟩ := st
    obtain ⟨xs, hq, hx⟩ := hg
    obtain ⟨its, rv, p, hz⟩ := I.tuple hq
    have p : s.heap.IsTuple a its.toArray := p
    obtain ⟨f0, f1, f2, f3, f4, f5⟩ := hf it (by simp)
    have hl := rv.length
    obtain ⟨hea, hai⟩ := apart he hit p
    exact enum_endT (I.ok.hd hc) he hit p (List.getElem?_eq_none_iff.mpr (by omega)) fun h' eb => ⟨rfl, I.turned (t' := s.toks) (fun b o hb q => eb b o hb q) f0 f1 f3 f4 f5⟩
  self := fun A i s Q E st h => let ⟨⟨_, he⟩, _⟩ := st; wpAny_pyIter_enum he h
def iEnumT (K : PySem.W.Frag) (ta : TA) : TI := fun σ H R => ta σ H fun vs H1 => ∃ a xs, vs = [.ref a] ∧ SqT K H1 a xs ∧ R (IteT K a) H1
theorem pi_enumT {X : Cx} {e : Expr} {ta : TA} {p pos tpos : Pos} {elts : List Expr} {kk : Nat} (hg : Gl X "enumerate") (hm : X.mg "enumerate" = none) (ha : PA X [e] ta) (hs : starEach [e] X.env = [(false, eval e X.env)] := by rfl) :
    PI X (.Tuple elts kk tpos) (.Call (.Name "enumerate" p) [e] [] pos) (iEnumT X.K ta) := by
  refine ⟨fun pins s σ H R I h => ?_⟩
  refine Call_ (ld_blt I hg hm boot_enumerate (PyProof.Rows.callWith_type1 (thn (ha.run pos pins s σ H _ I h) fun us s1 ⟨vs, H1, I1, r1, q1⟩ => ?_) hs rfl))
  obtain ⟨a, xs, ex, hq, q⟩ := q1
  subst ex
  cases r1 with
  | cons r rr =>
    cases rr
    cases r
    obtain ⟨its, rv, p', hz⟩ := I1.tuple hq
    have p' : s1.heap.IsTuple a its.toArray := p'
    refine call_enumerate_tuple p' fun h' he hit hsz hk => wpAny_pyIter_enum he ?_
    have I2 : Inv X pins σ H1 { s1 with heap := h' } := I1.kept (t' := s1.toks) hk
    refine ⟨s1.heap.objs.size + 1, [s1.heap.objs.size + 1, s1.heap.objs.size], _, _, H1, rfl, I2, turn_enumT a (s1.heap.objs.size + 1) s1.heap.objs.size, ⟨⟨.none, he⟩, hit, Nat.succ_ne_self _⟩, fun b hb => ?_, q⟩
    have e' : b = s1.heap.objs.size + 1 ∨ b = s1.heap.objs.size := by simpa using hb
    have hle : s1.heap.objs.size ≤ b := by
      rcases e' with z | z
      · rw [z]; exact Nat.le_add_right _ _
      · rw [z]; exact Nat.le_refl _
    exact I1.fpOk hle (I1.hok.fresh hle)
end DlU

/-! DlA: a small functional interpreter (values, heap, expressions, statements). -/
namespace Dl

inductive W where
  | non | bl (b : Bool) | int (i : Int) | str (s : List Nat) | tup (ws : List W) | ref (i : Nat) | exn (c : Nat) | fl (ws : List W) | fd (ks : List (List Nat)) (ws : List W)
  deriving Inhabited

mutual
/-- structural equality -/
def weq : W → W → Bool
  | .non, .non => true
  | .bl a, .bl b => a == b
  | .int a, .int b => a == b
  | .str a, .str b => a == b
  | .tup a, .tup b => weqs a b
  | .fl a, .fl b => weqs a b
  | .fd k a, .fd l b => (k == l) && weqs a b
  | .ref a, .ref b => a == b
  | .exn a, .exn b => a == b
  | _, _ => false
def weqs : List W → List W → Bool
  | [], [] => true
  | a :: r, b :: q => weq a b && weqs r q
  | _, _ => false
end
mutual
/-- no reference at n or beyond -/
def below (n : Nat) : W → Bool
  | .tup ws => belows n ws
  | .fl ws => belows n ws
  | .fd _ ws => belows n ws
  | .ref i => decide (i < n)
  | .exn _ => false
  | _ => true
def belows (n : Nat) : List W → Bool
  | [] => true
  | w :: r => below n w && belows n r
end
mutual
def depthW : W → Nat
  | .tup ws => depthWs ws + 1
  | .fl ws => depthWs ws + 1
  | .fd _ ws => depthWs ws + 1
  | _ => 1
def depthWs : List W → Nat
  | [] => 0
  | w :: r => max (depthW w) (depthWs r)
end

abbrev Nm := List Nat
inductive Ob where
  | lst (ws : List W) | dct (kvs : List (W × W)) | fz (kvs : List (W × W)) | set (ws : List W) | ins (c : Nat) (fs : List (Nm × W))
  deriving Inhabited
abbrev G := List Ob
abbrev Env := List (Option W)
def kvseq : List (W × W) → List (W × W) → Bool
  | [], [] => true
  | (a, b) :: r, (c, d) :: q => weq a c && weq b d && kvseq r q
  | _, _ => false
def fseq : List (Nm × W) → List (Nm × W) → Bool
  | [], [] => true
  | (a, b) :: r, (c, d) :: q => (a == c) && weq b d && fseq r q
  | _, _ => false
def obeq : Ob → Ob → Bool
  | .lst a, .lst b => weqs a b
  | .dct a, .dct b => kvseq a b
  | .fz a, .fz b => kvseq a b
  | .set a, .set b => weqs a b
  | .ins c a, .ins d b => (c == d) && fseq a b
  | _, _ => false
/-- an object without a reference at n or beyond -/
def lowO (n : Nat) : Ob → Bool
  | .lst ws => belows n ws
  | .dct kvs => kvs.all fun kv => below n kv.1 && below n kv.2
  | .fz kvs => kvs.all fun kv => below n kv.1 && below n kv.2
  | .set ws => belows n ws
  | .ins _ fs => fs.all fun f => below n f.2
/-- the beginning of the second one stands by itself: what is changed in it refers to nothing at n or beyond -/
def gpre (n : Nat) : G → G → Bool
  | [], _ => true
  | a :: r, b :: q => (obeq a b || lowO n b) && gpre n r q
  | _ :: _, [] => false

inductive R (α : Type) where
  | ok (a : α) (g : G) | exc (c : Nat) (g : G) | err
  deriving Inhabited
def R.bind {α β : Type} (r : R α) (f : α → G → R β) : R β := match r with
  | .ok a g => f a g
  | .exc c g => .exc c g
  | .err => .err
def R.of {α : Type} (o : Option α) (g : G) : R α := match o with
  | some a => .ok a g
  | none => .err

/-- what must not raise -/
def R.nx {α : Type} (r : R α) : R α := match r with
  | .exc _ _ => .err
  | r => r

/-! ### operations on values -/
inductive Bop where | add | sub | mul | fdiv | mod | pow | shl | shr | band | bor | bxor
  deriving DecidableEq
inductive Cop where | eq | ne | lt | le | gt | ge | is_ | isnot | in_ | notin
  deriving DecidableEq
inductive Ty where | int | bool | str | list | tuple | dict | cls (c : Nat)
  deriving DecidableEq
inductive B1 where | abs | int | len | str | repr
  deriving DecidableEq
inductive BS where | any | all | sum | max | min | tuple | list | sorted | len
  deriving DecidableEq

/-- == of scalars -/
def seqb : W → W → Bool
  | .non, .non => true
  | .bl a, .bl b => a == b
  | .bl a, .int j => (if a then 1 else 0) == j
  | .int i, .bl b => i == (if b then 1 else 0)
  | .int i, .int j => i == j
  | .str x, .str y => x == y
  | _, _ => false
/-- scalars that == tells apart at once -/
def scal2 : W → W → Bool
  | .non, .non | .non, .int _ | .int _, .non | .non, .bl _ | .bl _, .non | .non, .str _ | .str _, .non => true
  | .int _, .int _ | .bl _, .bl _ | .str _, .str _ => true
  | .int _, .str _ | .str _, .int _ | .bl _, .str _ | .str _, .bl _ => true
  | _, _ => false

def smallI (n : Int) : Bool := decide (n.natAbs.log2 < 400000)
def Bop.runI (o : Bop) (a b : Int) : Option Int := match o with
  | .add => some (a + b)
  | .sub => some (a - b)
  | .mul => if smallI a && smallI b then some (a * b) else none
  | .fdiv => if 0 < b ∧ b.natAbs.log2 < 9000 then some (a / b) else none
  | .mod => if 0 < b then some (a % b) else none
  | .pow => if 0 ≤ b ∧ b ≤ 1000000 ∧ a.natAbs < 2 ^ 64 then some (a ^ b.toNat) else none
  | .shl => if 0 ≤ b ∧ b ≤ 1000000 ∧ a.natAbs < 2 ^ 64 then some (a * 2 ^ b.toNat) else none
  | .shr => if 0 ≤ b then some (a / 2 ^ b.toNat) else none
  | .band => some (PySem.Builtin.bitAnd a b)
  | .bor => some (PySem.Builtin.bitOr a b)
  | .bxor => some (PySem.Builtin.bitXor a b)
def lim : Nat := 1000000
/-- a op b; a list is new -/
def Bop.run (o : Bop) (a b : W) (g : G) : R W := match a, b with
  | .int i, .int j => R.of ((o.runI i j).map W.int) g
  | .str x, .str y => match o with
    | .add => if x.length + y.length ≤ lim then .ok (.str (x ++ y)) g else .err
    | _ => .err
  | .tup x, .tup y => match o with
    | .add => if x.length + y.length ≤ lim then .ok (.tup (x ++ y)) g else .err
    | _ => .err
  | .ref p, .ref q => match o, g[p]?, g[q]? with
    | .add, some (.lst x), some (.lst y) => if x.length + y.length ≤ lim then .ok (.ref g.length) (g ++ [.lst (x ++ y)]) else .err
    | _, _, _ => .err
  | .ref p, .int k => match o, g[p]? with
    | .mul, some (.lst x) => if k ≤ lim ∧ -lim ≤ k ∧ x.length * k.toNat ≤ lim then .ok (.ref g.length) (g ++ [.lst (List.replicate k.toNat x).flatten]) else .err
    | _, _ => .err
  | .tup x, .int k => match o with
    | .mul => if k ≤ 1000 ∧ -1000 ≤ k ∧ x.length ≤ 1000 then .ok (.tup (List.replicate k.toNat x).flatten) g else .err
    | _ => .err
  | _, _ => .err

/-- the items of a list or a tuple that is read -/
def seqOf (w : W) (g : G) : Option (List W) := match w with
  | .tup ws => some ws
  | .fl ws => some ws
  | .ref i => match g[i]? with
    | some (.lst ws) => some ws
    | _ => none
  | _ => none
/-- the items of a list that is read -/
def lstOf (w : W) (g : G) : Option (List W) := match w with
  | .fl ws => some ws
  | .ref i => match g[i]? with
    | some (.lst ws) => some ws
    | _ => none
  | _ => none
/-- the entries of a dict that is read -/
def kvsOf (w : W) (g : G) : Option (List (W × W)) := match w with
  | .ref i => match g[i]? with
    | some (.dct kvs) => some kvs
    | some (.fz kvs) => some kvs
    | _ => none
  | _ => none
/-- data: scalars, tuples, lists, at most n deep -/
def dataOk (g : G) : Nat → W → Bool
  | 0, _ => false
  | n + 1, .tup ws => ws.all (dataOk g n)
  | n + 1, .ref i => match lstOf (.ref i) g with
    | some ws => ws.all (dataOk g n)
    | none => false
  | n + 1, .fl ws => ws.all (dataOk g n)
  | _ + 1, .exn _ => false
  | _ + 1, .fd _ _ => false
  | _ + 1, .str s => s.all fun c => decide (c < 1114112)
  | _ + 1, _ => true
/-- the same in the layer's words -/
def pd (g : G) : Nat → W → PySem.PyData
  | 0, _ => .none
  | n + 1, .tup ws => .tuple (ws.map (pd g n))
  | n + 1, .ref i => .list (((lstOf (.ref i) g).getD []).map (pd g n))
  | n + 1, .fl ws => .list (ws.map (pd g n))
  | _ + 1, .bl b => .bool b
  | _ + 1, .int i => .int i
  | _ + 1, .str s => .str (⟨s.toArray⟩)
  | _ + 1, _ => .none
/-- what repr says of a list or a tuple of data -/
def reprW (g : G) (x : W) : Option W := match x with
  | .tup _ | .ref _ => if dataOk g 60 x && ((pd g 60 x).showable && decide ((pd g 60 x).shown.length ≤ 1000000)) then some (.str (pd g 60 x).shown.cps.toList) else none
  | _ => none
def eqbs (f : W → W → Bool) : List W → List W → Bool
  | [], [] => true
  | x :: xs, y :: ys => f x y && eqbs f xs ys
  | _, _ => false
/-- == of data -/
def eqb (g : G) : Nat → W → W → Bool
  | 0, _, _ => false
  | n + 1, .tup xs, .tup ys => eqbs (eqb g n) xs ys
  | n + 1, a, b => match lstOf a g, lstOf b g with
    | some xs, some ys => eqbs (eqb g n) xs ys
    | _, _ => seqb a b
def flatW : W → Bool
  | .non | .bl _ | .int _ | .str _ => true
  | _ => false
/-- the index meant among n items -/
def ixW (n : Nat) (i : Int) : Option Nat := if 0 ≤ i then (if i < n then some i.toNat else none) else if -(n : Int) ≤ i then some (i + n).toNat else none
def atW {α : Type} (xs : List α) (i : Int) : Option α := (ixW xs.length i).bind fun j => xs[j]?
/-- a key that a dict may be asked for -/
def fits (_ : List (W × W)) (k : W) : Bool := match k with
  | .int _ | .str _ => true
  | _ => false
def getD (kvs : List (W × W)) (k : W) : Option W := match kvs with
  | [] => none
  | (a, b) :: r => if weq a k then some b else getD r k
def putD (kvs : List (W × W)) (k v : W) : List (W × W) :=
  if kvs.any fun kv => weq kv.1 k then kvs.map fun kv => if weq kv.1 k then (kv.1, v) else kv else kvs ++ [(k, v)]
/-- without the entry of a key -/
def dropD (kvs : List (W × W)) (k : W) : List (W × W) := kvs.filter fun kv => !(weq kv.1 k)
def pairW : List W → Option (List (W × W))
  | [] => some []
  | [_] => none
  | a :: b :: r => (pairW r).map fun q => (a, b) :: q
def getF (fs : List (Nm × W)) (f : Nm) : Option W := match fs with
  | [] => none
  | (a, b) :: r => if a = f then some b else getF r f
def putFW (f : Nm) (v : W) : List (Nm × W) → List (Nm × W)
  | [] => [(f, v)]
  | (a, b) :: r => if a = f then (a, v) :: r else (a, b) :: putFW f v r

/-- a written dict's value -/
def getFd (ks : List (List Nat)) (ws : List W) (z : List Nat) : Option W := (ks.zip ws).lookup z
/-- x in y -/
def inW (x y : W) (g : G) : Option Bool := match y with
  | .tup ws => if flatW x && ws.all flatW then some (ws.any fun w => seqb w x) else none
  | .ref i => match g[i]? with
    | some (.lst ws) => if flatW x && ws.all flatW then some (ws.any fun w => seqb w x) else none
    | some (.dct kvs) => if fits kvs x then some (getD kvs x).isSome else none
    | some (.fz kvs) => if fits kvs x then some (getD kvs x).isSome else none
    | _ => none
  | .str z => match x with
    | .str [c] => some (z.contains c)
    | _ => none
  | .fd ks ws => match x with
    | .str z => some (getFd ks ws z).isSome
    | _ => none
  | _ => none
def eqW (x y : W) (g : G) : Option Bool :=
  if scal2 x y then some (seqb x y) else if dataOk g 60 x && dataOk g 60 y then some (eqb g 60 x y) else none
def Cop.run (o : Cop) (x y : W) (g : G) : Option Bool := match o with
  | .eq => eqW x y g
  | .ne => (eqW x y g).map (!·)
  | .lt => match x, y with
    | .int i, .int j => some (decide (i < j))
    | _, _ => none
  | .le => match x, y with
    | .int i, .int j => some (decide (i ≤ j))
    | _, _ => none
  | .gt => match x, y with
    | .int i, .int j => some (decide (j < i))
    | _, _ => none
  | .ge => match x, y with
    | .int i, .int j => some (decide (j ≤ i))
    | _, _ => none
  | .is_ => match y with
    | .non => some (match x with | .non => true | _ => false)
    | _ => none
  | .isnot => match y with
    | .non => some (match x with | .non => false | _ => true)
    | _ => none
  | .in_ => inW x y g
  | .notin => (inW x y g).map (!·)
def truthW (x : W) (g : G) : Option Bool := match x with
  | .non => some false
  | .bl b => some b
  | .int i => some (i != 0)
  | .str s => if s.length ≤ lim then some (!s.isEmpty) else none
  | .tup ws => some (!ws.isEmpty)
  | .fl ws => some (!ws.isEmpty)
  | .ref i => match g[i]? with
    | some (.lst ws) => some (!ws.isEmpty)
    | some (.dct kvs) => some (!kvs.isEmpty)
    | _ => none
  | .exn _ => none
  | .fd _ _ => none
/-- the places of a slice's bound -/
def cutIx (n d : Nat) : Option Int → Nat
  | none => d
  | some v => if v < 0 then (v + (n : Int)).toNat else min v.toNat n
def cutW {α : Type} (xs : List α) (lo hi : Option Int) : List α := (xs.drop (cutIx xs.length 0 lo)).take (cutIx xs.length xs.length hi - cutIx xs.length 0 lo)

def B1.run (b : B1) (x : W) (g : G) : Option W := match b with
  | .abs => match x with
    | .int i => some (.int (if i < 0 then -i else i))
    | _ => none
  | .int => match x with
    | .int i => some (.int i)
    | .bl k => some (.int (if k then 1 else 0))
    | _ => none
  | .len => match x with
    | .str s => if s.length ≤ lim then some (.int s.length) else none
    | .tup ws => some (.int ws.length)
    | .fl ws => some (.int ws.length)
    | .ref i => match g[i]? with
      | some (.lst ws) => some (.int ws.length)
      | some (.dct kvs) => some (.int kvs.length)
      | some (.fz kvs) => some (.int kvs.length)
      | _ => none
    | _ => none
  | .repr => reprW g x
  | _ => none
def asInts : List W → Option (List Int)
  | [] => some []
  | .int i :: r => (asInts r).map (i :: ·)
  | _ :: _ => none
def asStrs : List W → Option (List (List Nat))
  | [] => some []
  | .str i :: r => (asStrs r).map (i :: ·)
  | _ :: _ => none
/-- how many differ, the last first -/
def dcN : List (List Nat) → Nat
  | [] => 0
  | x :: r => if r.any (· == x) then dcN r else dcN r + 1
def asBls : List W → Option (List Bool)
  | [] => some []
  | .bl b :: r => (asBls r).map (b :: ·)
  | _ :: _ => none
def insI (x : Int) : List Int → List Int
  | [] => [x]
  | y :: r => if x ≤ y then x :: y :: r else y :: insI x r
def sortI : List Int → List Int
  | [] => []
  | x :: r => insI x (sortI r)
def maxI : List Int → Option Int
  | [] => none
  | x :: r => match maxI r with
    | none => some x
    | some y => some (if x < y then y else x)
def minI : List Int → Option Int
  | [] => none
  | x :: r => match minI r with
    | none => some x
    | some y => some (if y < x then y else x)
def BS.run (b : BS) (ws : List W) (g : G) : R W := match b with
  | .any => R.of ((asBls ws).map fun l => W.bl (l.any id)) g
  | .all => R.of ((asBls ws).map fun l => W.bl (l.all id)) g
  | .sum => R.of ((asInts ws).map fun l => W.int l.sum) g
  | .max => R.of (((asInts ws).bind maxI).map W.int) g
  | .min => R.of (((asInts ws).bind minI).map W.int) g
  | .tuple => .ok (.tup ws) g
  | .len => .ok (.int ws.length) g
  | .list => .ok (.ref g.length) (g ++ [.lst ws])
  | .sorted => match asInts ws with
    | some l => if l.length < 64 then .ok (.ref g.length) (g ++ [.lst ((sortI l).map W.int)]) else .err
    | none => .err

/-- the class of an instance -/
def clsOf (w : W) (g : G) : Option Nat := match w with
  | .ref i => match g[i]? with
    | some (.ins c _) => some c
    | _ => none
  | _ => none
def isTy (w : W) (t : Ty) (g : G) : Option Bool := match t with
  | .int => match w with
    | .int _ | .bl _ => some true
    | .non | .str _ | .tup _ => some false
    | .ref i => match g[i]? with
      | some (.lst _) | some (.dct _) => some false
      | _ => none
    | _ => none
  | .bool => match w with
    | .bl _ => some true
    | .int _ | .non | .str _ | .tup _ => some false
    | .ref i => match g[i]? with
      | some (.lst _) | some (.dct _) => some false
      | _ => none
    | _ => none
  | .str => match w with
    | .str _ => some true
    | .int _ | .non | .bl _ | .tup _ => some false
    | .ref i => match g[i]? with
      | some (.lst _) | some (.dct _) => some false
      | _ => none
    | _ => none
  | .list => match w with
    | .int _ | .non | .bl _ | .tup _ | .str _ => some false
    | .ref i => match g[i]? with
      | some (.lst _) => some true
      | some (.dct _) => some false
      | _ => none
    | _ => none
  | .tuple => match w with
    | .tup _ => some true
    | .int _ | .non | .bl _ | .str _ => some false
    | .ref i => match g[i]? with
      | some (.lst _) | some (.dct _) => some false
      | _ => none
    | _ => none
  | .dict => match w with
    | .tup _ | .int _ | .non | .bl _ | .str _ => some false
    | .ref i => match g[i]? with
      | some (.lst _) => some false
      | some (.dct _) => some true
      | _ => none
    | _ => none
  | .cls _ => none

/-! ### the text -/
inductive Tg where
  | nm (i : Nat) | tp (ts : List Nat)
  deriving Inhabited
/-- methods of built-in types: one argument, none -/
inductive M where | append | extend | pop0 | pop | get | setdefault | count | index
  deriving DecidableEq
mutual
inductive E where
  | cst (w : W) | var (i : Nat)
  | tup (es : EL) | lst (es : EL)
  | bop (o : Bop) (a b : E) | neg (a : E) | not (a : E)
  | cmp (o : Cop) (a b : E) | chain (o o' : Cop) (a b c : E)
  | and (a b : E) | or (a b : E) | ife (c a b : E)
  | idx (a b : E) | slo (a lo : E) | shi (a hi : E) | slh (a lo hi : E) | rev (a : E)
  | fld (a : E) (f : Nm)
  | call (f : Nat) (es : EL) | meth (o : E) (m : Nm) (es : EL) | new (c : Nat) (es : EL)
  | b1 (b : B1) (a : E) | bs (b : BS) (a : E) | bt (b : BS) (a : E) | max2 (a b : E) | min2 (a b : E) | isi (a : E) (t : Ty)
  | comp (vs : List Nat) (t : Tg) (s : Src) (c : E) (el : E)
  | dcomp (vs : List Nat) (t : Tg) (s : Src) (c : E) (k v : E)
  | srt (a : E)
  | dnew (es : EL)
  | lset (a : E)
  | mth (m : M) (o : E) (es : EL)
  /-- o.get(k, d); o.pop(k, d), o a dict; o.pop(k), o a dict or a list -/
  | dget (o k d : E) | dpop (o k d : E) | pop1 (o k : E)
inductive EL where
  | nil | cons (e : E) (r : EL)
/-- what is walked -/
inductive Src where
  | seq (e : E) | rng1 (a : E) | rng2 (a b : E) | rng3 (a b c : E) | enum (e : E) | zip (a b : E)
end
instance : Inhabited E := ⟨.var 0⟩
mutual
inductive S where
  | asg (t : Tg) (e : E) | put (a b e : E) | setf (o : E) (f : Nm) (e : E)
  | aug (i : Nat) (o : Bop) (e : E) | augf (a : E) (f : Nm) (o : Bop) (e : E) | augi (a b : E) (o : Bop) (e : E)
  | swap (a b c d : E) (x y : E)
  | ifs (c : E) (a b : SL) | whl (c : E) (b : SL) | for_ (t : Tg) (s : Src) (b : SL)
  | ret (e : E) | retn | expr (e : E) | brk | cnt | pass | rais (c : Nat)
  /-- try b, an error of the class k caught by the name i: w is handed back -/
  | tryc (b : SL) (k i : Nat) (w : W)
inductive SL where
  | nil | cons (s : S) (r : SL)
end
instance : Inhabited SL := ⟨.nil⟩

inductive Fl where | nx | brk | cnt | ret (w : W)
  deriving Inhabited
inductive RS where
  | go (f : Fl) (ρ : Env) (g : G) | exc (c : Nat) (ρ : Env) (g : G) | err
  deriving Inhabited
def RS.of {α : Type} (r : R α) (ρ : Env) (k : α → G → RS) : RS := match r with
  | .ok a g => k a g
  | .exc c g => .exc c ρ g
  | .err => .err
/-- behind a statement the rest -/
def RS.andThen (r : RS) (k : Env → G → RS) : RS := match r with
  | .go .nx ρ g => k ρ g
  | r => r

/-! ### walks -/
inductive Cur where
  /-- values that stay -/
  | vals (ws : List W)
  /-- a list's items as they stand; with their places; two lists' -/
  | live (i : Nat) | lenum (i : Nat) | lzip (i j : Nat)
/-- at turn j: none: not served; some none: the end -/
def Cur.at_ (c : Cur) (j : Nat) (g : G) : Option (Option W) := match c with
  | .vals ws => some ws[j]?
  | .live i => (lstOf (.ref i) g).map fun ws => ws[j]?
  | .lenum i => (lstOf (.ref i) g).map fun ws => ws[j]?.map fun w => .tup [.int j, w]
  | .lzip i k => match lstOf (.ref i) g, lstOf (.ref k) g with
    | some ws, some us => some (match ws[j]?, us[j]? with | some a, some b => some (.tup [a, b]) | _, _ => none)
    | _, _ => none
def setAll : List Nat → List W → Env → Option Env
  | [], [], ρ => some ρ
  | i :: r, w :: q, ρ => setAll r q (ρ.set i (some w))
  | _, _, _ => none
/-- the slots of a target, from a list too -/
def Tg.putS (t : Tg) (w : W) (ρ : Env) (g : G) : Option Env := match t with
  | .nm i => some (ρ.set i (some w))
  | .tp ts => match w with
    | .tup ws => setAll ts ws ρ
    | w => match lstOf w g with
      | some ws => setAll ts ws ρ
      | none => none
/-- a target is stored -/
def Tg.put (t : Tg) (w : W) (ρ : Env) : Option Env := match t with
  | .nm i => some (ρ.set i (some w))
  | .tp ts => match w with
    | .tup ws => setAll ts ws ρ
    | _ => none
def wipeE (ρ : Env) : List Nat → Env
  | [] => ρ
  | v :: vs => (wipeE ρ vs).set v none
/-- the items of a comprehension over values that stay -/
def compV (t : Tg) (c : Env → G → R Bool) (el : Env → G → R W) (ρ : Env) : List W → G → R (List W)
  | [], g => .ok [] g
  | w :: r, g => match t.put w ρ with
    | none => .err
    | some ρ' => (c ρ' g).nx.bind fun b g1 => match b with
      | false => compV t c el ρ r g1
      | true => (el ρ' g1).nx.bind fun x g2 => (compV t c el ρ r g2).bind fun xs g3 => .ok (x :: xs) g3
/-- .. over what may change: n turns at most, from turn j -/
def compL (t : Tg) (c : Env → G → R Bool) (el : Env → G → R W) (ρ : Env) (cur : Cur) : Nat → Nat → G → R (List W)
  | 0, _, _ => .err
  | n + 1, j, g => match cur.at_ j g with
    | none => .err
    | some none => .ok [] g
    | some (some w) => match t.put w ρ with
      | none => .err
      | some ρ' => (c ρ' g).nx.bind fun b g1 => match b with
        | false => compL t c el ρ cur n (j + 1) g1
        | true => (el ρ' g1).nx.bind fun x g2 => (compL t c el ρ cur n (j + 1) g2).bind fun xs g3 => .ok (x :: xs) g3
/-- .. of a dict comprehension: the entries as they are made -/
def dcV (t : Tg) (c : Env → G → R Bool) (k v : Env → G → R W) (ρ : Env) : List W → List (W × W) → G → R (List (W × W))
  | [], acc, g => .ok acc g
  | w :: r, acc, g => match t.put w ρ with
    | none => .err
    | some ρ' => (c ρ' g).nx.bind fun b g1 => match b with
      | false => dcV t c k v ρ r acc g1
      | true => (k ρ' g1).nx.bind fun x g2 => (v ρ' g2).nx.bind fun y g3 => if fits [] x then dcV t c k v ρ r (putD acc x y) g3 else .err
def dcL (t : Tg) (c : Env → G → R Bool) (k v : Env → G → R W) (ρ : Env) (cur : Cur) : Nat → Nat → List (W × W) → G → R (List (W × W))
  | 0, _, _, _ => .err
  | n + 1, j, acc, g => match cur.at_ j g with
    | none => .err
    | some none => .ok acc g
    | some (some w) => match t.put w ρ with
      | none => .err
      | some ρ' => (c ρ' g).nx.bind fun b g1 => match b with
        | false => dcL t c k v ρ cur n (j + 1) acc g1
        | true => (k ρ' g1).nx.bind fun x g2 => (v ρ' g2).nx.bind fun y g3 => if fits [] x then dcL t c k v ρ cur n (j + 1) (putD acc x y) g3 else .err
def forV (t : Tg) (b : Env → G → RS) : List W → Env → G → RS
  | [], ρ, g => .go .nx ρ g
  | w :: r, ρ, g => match t.put w ρ with
    | none => .err
    | some ρ' => match b ρ' g with
      | .go .nx ρ2 g2 | .go .cnt ρ2 g2 => forV t b r ρ2 g2
      | .go .brk ρ2 g2 => .go .nx ρ2 g2
      | r => r
def forL (t : Tg) (b : Env → G → RS) (cur : Cur) : Nat → Nat → Env → G → RS
  | 0, _, _, _ => .err
  | n + 1, j, ρ, g => match cur.at_ j g with
    | none => .err
    | some none => .go .nx ρ g
    | some (some w) => match t.put w ρ with
      | none => .err
      | some ρ' => match b ρ' g with
        | .go .nx ρ2 g2 | .go .cnt ρ2 g2 => forL t b cur n (j + 1) ρ2 g2
        | .go .brk ρ2 g2 => .go .nx ρ2 g2
        | r => r
def whl (c : Env → G → R Bool) (b : Env → G → RS) : Nat → Env → G → RS
  | 0, _, _ => .err
  | n + 1, ρ, g => RS.of (c ρ g) ρ fun k g1 => match k with
    | false => .go .nx ρ g1
    | true => match b ρ g1 with
      | .go .nx ρ2 g2 | .go .cnt ρ2 g2 => whl c b n ρ2 g2
      | .go .brk ρ2 g2 => .go .nx ρ2 g2
      | r => r

/-- the table of the text: classes (their __init__, methods by name) -/
structure Cl where
  init : Nat
  ms : List (Nm × Nat)
  deriving Inhabited
structure Fn where
  np : Nat
  nn : Nat
  body : SL
  deriving Inhabited
structure Tbl where
  fns : List Fn
  cls : List Cl
  deriving Inhabited
abbrev CallF := Nat → List W → G → R W
def findM : List (Nm × Nat) → Nm → Option Nat
  | [], _ => none
  | (a, b) :: r, m => if a = m then some b else findM r m
/-- turns of a walk or a while at most -/
def FUEL : Nat := lim

def M.runL (m : M) (i : Nat) (ws : List W) (g : G) : R W := match g[i]? with
  | some (.lst xs) => match m, ws with
    | .append, [y] => if xs.length < lim then .ok .non (g.set i (.lst (xs ++ [y]))) else .err
    | .extend, [.ref k] => match g[k]? with
      | some (.lst ys) => if xs.length + ys.length ≤ lim then .ok .non (g.set i (.lst (xs ++ ys))) else .err
      | _ => .err
    | .pop0, [] => match xs[xs.length - 1]? with
      | some y => .ok y (g.set i (.lst xs.dropLast))
      | none => .err
    | _, _ => .err
  | _ => .err
def M.runD (m : M) (i : Nat) (ws : List W) (g : G) : R W := match g[i]? with
  | some (.dct kvs) => match m, ws with
    | .get, [k, d] => if fits kvs k then .ok ((getD kvs k).getD d) g else .err
    | _, _ => .err
  | _ => .err

section
variable (T : Tbl) (call : CallF)
mutual
def ev : E → Env → G → R W
  | .cst w, _, g => .ok w g
  | .var i, ρ, g => match ρ[i]? with
    | some (some w) => .ok w g
    | _ => .err
  | .tup es, ρ, g => (evl es ρ g).bind fun ws g1 => .ok (.tup ws) g1
  | .lst es, ρ, g => (evl es ρ g).bind fun ws g1 => .ok (.ref g1.length) (g1 ++ [.lst ws])
  | .bop o a b, ρ, g => (ev a ρ g).bind fun x g1 => (ev b ρ g1).bind fun y g2 => o.run x y g2
  | .neg a, ρ, g => (ev a ρ g).bind fun x g1 => match x with
    | .int i => .ok (.int (-i)) g1
    | _ => .err
  | .not a, ρ, g => (ev a ρ g).bind fun x g1 => match x with
    | .bl b => .ok (.bl (!b)) g1
    | _ => .err
  | .cmp o a b, ρ, g => (ev a ρ g).bind fun x g1 => (ev b ρ g1).bind fun y g2 => R.of ((o.run x y g2).map W.bl) g2
  | .chain o o' a b c, ρ, g => (ev a ρ g).bind fun x g1 => (ev b ρ g1).bind fun y g2 => (R.of (o.run x y g2) g2).bind fun k g3 => match k with
    | false => .ok (.bl false) g3
    | true => (ev c ρ g3).bind fun z g4 => R.of ((o'.run y z g4).map W.bl) g4
  | .and a b, ρ, g => (ev a ρ g).bind fun x g1 => match x with
    | .bl true => ev b ρ g1
    | .bl false => .ok (.bl false) g1
    | _ => .err
  | .or a b, ρ, g => (ev a ρ g).bind fun x g1 => match x with
    | .bl true => .ok (.bl true) g1
    | .bl false => ev b ρ g1
    | _ => .err
  | .ife c a b, ρ, g => (tst c ρ g).bind fun k g1 => match k with
    | true => ev a ρ g1
    | false => ev b ρ g1
  | .idx a b, ρ, g => (ev a ρ g).bind fun x g1 => (ev b ρ g1).bind fun y g2 => match x, y with
    | .tup ws, .int i => R.of (atW ws i) g2
    | .fl ws, .int i => R.of (atW ws i) g2
    | .str s, .int i => if s.length ≤ lim then R.of ((atW s i).map fun c => W.str [c]) g2 else .err
    | .fd ks us, .str z => R.of (getFd ks us z) g2
    | .ref p, y => match g2[p]?, y with
      | some (.lst ws), .int i => R.of (atW ws i) g2
      | some (.dct kvs), k => if fits kvs k then R.of (getD kvs k) g2 else .err
      | some (.fz kvs), k => if fits kvs k then R.of (getD kvs k) g2 else .err
      | _, _ => .err
    | _, _ => .err
  | .slo a lo, ρ, g => (ev a ρ g).bind fun x g1 => (ev lo ρ g1).bind fun y g2 => match x, y with
    | .tup ws, .int i => .ok (.tup (cutW ws (some i) none)) g2
    | .str s, .int i => if s.length ≤ lim then .ok (.str (cutW s (some i) none)) g2 else .err
    | .ref p, .int i => match g2[p]? with
      | some (.lst ws) => .ok (.ref g2.length) (g2 ++ [.lst (cutW ws (some i) none)])
      | _ => .err
    | _, _ => .err
  | .shi a hi, ρ, g => (ev a ρ g).bind fun x g1 => (ev hi ρ g1).bind fun y g2 => match x, y with
    | .tup ws, .int i => .ok (.tup (cutW ws none (some i))) g2
    | .str s, .int i => if s.length ≤ lim then .ok (.str (cutW s none (some i))) g2 else .err
    | .ref p, .int i => match g2[p]? with
      | some (.lst ws) => .ok (.ref g2.length) (g2 ++ [.lst (cutW ws none (some i))])
      | _ => .err
    | _, _ => .err
  | .slh a lo hi, ρ, g => (ev a ρ g).bind fun x g1 => (ev lo ρ g1).bind fun y g2 => match y with
    | .int i => (ev hi ρ g2).bind fun z g3 => match x, z with
      | .tup ws, .int j => .ok (.tup (cutW ws (some i) (some j))) g3
      | .ref p, .int j => match g3[p]? with
        | some (.lst ws) => .ok (.ref g3.length) (g3 ++ [.lst (cutW ws (some i) (some j))])
        | _ => .err
      | _, _ => .err
    | _ => .err
  | .rev a, ρ, g => (ev a ρ g).bind fun x g1 => match x with
    | .ref p => match g1[p]? with
      | some (.lst ws) => .ok (.ref g1.length) (g1 ++ [.lst ws.reverse])
      | _ => .err
    | _ => .err
  | .fld a f, ρ, g => (ev a ρ g).bind fun x g1 => match x with
    | .ref p => match g1[p]? with
      | some (.ins _ fs) => R.of (getF fs f) g1
      | _ => .err
    | _ => .err
  | .call f es, ρ, g => (evl es ρ g).bind fun ws g1 => call f ws g1
  | .meth o m es, ρ, g => (ev o ρ g).bind fun x g1 => match x with
    | .ref p => match g1[p]? with
      | some (.ins c fs) => match T.cls[c]? with
        | some cl => match findM cl.ms m, getF fs m with
          | some f, none => (evl es ρ g1).bind fun ws g2 => call f (.ref p :: ws) g2
          | _, _ => .err
        | none => .err
      | _ => .err
    | _ => .err
  | .new c es, ρ, g => (evl es ρ g).bind fun ws g1 => match T.cls[c]? with
    | some cl => (call cl.init (.ref g1.length :: ws) (g1 ++ [.ins c []])).bind fun w g2 => match w with
      | .non => .ok (.ref g1.length) g2
      | _ => .err
    | none => .err
  | .b1 b a, ρ, g => (ev a ρ g).bind fun x g1 => R.of (b.run x g1) g1
  | .bs b a, ρ, g => (its a ρ g).bind fun ws g1 => b.run ws g1
  | .bt b a, ρ, g => (ev a ρ g).bind fun x g1 => (R.of (seqOf x g1) g1).bind fun ws g2 => match b with
    | .tuple => .ok (.tup ws) g2
    | .list => .ok (.ref g2.length) (g2 ++ [.lst ws])
    | _ => .err
  | .max2 a b, ρ, g => (ev a ρ g).bind fun x g1 => (ev b ρ g1).bind fun y g2 => match x, y with
    | .int i, .int j => .ok (.int (if j > i then j else i)) g2
    | _, _ => .err
  | .min2 a b, ρ, g => (ev a ρ g).bind fun x g1 => (ev b ρ g1).bind fun y g2 => match x, y with
    | .int i, .int j => .ok (.int (if j < i then j else i)) g2
    | _, _ => .err
  | .isi a t, ρ, g => (ev a ρ g).bind fun x g1 => R.of ((isTy x t g1).map W.bl) g1
  | .comp vs t s c el, ρ, g => (src s ρ g).bind fun cur g1 => ((match cur with
      | .vals ws => if ws.length ≤ lim then compV t (tst c) (ev el) (wipeE ρ vs) ws g1 else .err
      | cur => compL t (tst c) (ev el) (wipeE ρ vs) cur FUEL 0 g1) : R (List W)).bind fun ws g2 => .ok (.ref g2.length) (g2 ++ [.lst ws])
  | .dcomp vs t s c k v, ρ, g => (src s ρ g).bind fun cur g1 => ((match cur with
      | .vals ws => if ws.length ≤ lim then dcV t (tst c) (ev k) (ev v) (wipeE ρ vs) ws [] g1 else .err
      | cur => dcL t (tst c) (ev k) (ev v) (wipeE ρ vs) cur FUEL 0 [] g1) : R (List (W × W))).bind fun kvs g2 => .ok (.ref g2.length) (g2 ++ [.dct kvs])
  | .srt a, ρ, g => (ev a ρ g).bind fun x g1 => match kvsOf x g1 with
    | some kvs => BS.sorted.run (kvs.map (·.1)) g1
    | none => (R.of (lstOf x g1) g1).bind fun ws g2 => BS.sorted.run ws g2
  | .dnew es, ρ, g => (evl es ρ g).bind fun ws g1 => match pairW ws with
    | some ps => if ps.length ≤ 15 ∧ (ps.all fun kv => fits [] kv.1) = true then .ok (.ref g1.length) (g1 ++ [.dct (ps.foldl (fun acc kv => putD acc kv.1 kv.2) [])]) else .err
    | none => .err
  | .lset a, ρ, g => (ev a ρ g).bind fun x g1 => match x with
    | .ref i => match g1[i]? with
      | some (.lst ws) => R.of ((asStrs ws).bind fun l => if l.length ≤ 1000 then some (W.int (dcN l.reverse : Nat)) else none) g1
      | _ => .err
    | _ => .err
  | .mth m o es, ρ, g => (ev o ρ g).bind fun x g1 => match x with
    | .ref i => match g1[i]? with
      | some (.lst _) => (evl es ρ g1).bind fun ws g2 => m.runL i ws g2
      | some (.dct _) => if m = .get then (evl es ρ g1).bind fun ws g2 => m.runD i ws g2 else .err
      | _ => .err
    | _ => .err
  | .dget o k d, ρ, g => (ev o ρ g).bind fun x g1 => match kvsOf x g1 with
    | some _ => (ev k ρ g1).bind fun y g2 => (ev d ρ g2).bind fun z g3 => match kvsOf x g3 with
      | some kvs => if fits kvs y then .ok ((getD kvs y).getD z) g3 else .err
      | none => .err
    | none => .err
  | .dpop o k d, ρ, g => (ev o ρ g).bind fun x g1 => match x with
    | .ref i => match g1[i]? with
      | some (.dct _) => (ev k ρ g1).bind fun y g2 => (ev d ρ g2).bind fun z g3 => match g3[i]? with
        | some (.dct kvs) => if fits kvs y then .ok ((getD kvs y).getD z) (g3.set i (.dct (dropD kvs y))) else .err
        | _ => .err
      | _ => .err
    | _ => .err
  | .pop1 o k, ρ, g => (ev o ρ g).bind fun x g1 => match x with
    | .ref i => match g1[i]? with
      | some (.lst _) => (ev k ρ g1).bind fun y g2 => match g2[i]?, y with
        | some (.lst ws), .int j => match ixW ws.length j with
          | some n => match ws[n]? with
            | some w => if ws.length ≤ lim then .ok w (g2.set i (.lst (ws.eraseIdx n))) else .err
            | none => .err
          | none => .err
        | _, _ => .err
      | _ => .err
    | _ => .err
/-- as a test -/
def tst : E → Env → G → R Bool
  | .and a b, ρ, g => (tst a ρ g).bind fun k g1 => match k with
    | true => tst b ρ g1
    | false => .ok false g1
  | .or a b, ρ, g => (tst a ρ g).bind fun k g1 => match k with
    | true => .ok true g1
    | false => tst b ρ g1
  | .not a, ρ, g => (tst a ρ g).bind fun k g1 => .ok (!k) g1
  | e, ρ, g => (ev e ρ g).bind fun x g1 => R.of (truthW x g1) g1
/-- the items of a list; one that is written here is not laid -/
def its : E → Env → G → R (List W)
  | .comp vs t s c el, ρ, g => (src s ρ g).bind fun cur g1 => match cur with
      | .vals ws => if ws.length ≤ lim then compV t (tst c) (ev el) (wipeE ρ vs) ws g1 else .err
      | cur => compL t (tst c) (ev el) (wipeE ρ vs) cur FUEL 0 g1
  | .lst es, ρ, g => evl es ρ g
  | e, ρ, g => (ev e ρ g).bind fun x g1 => R.of (lstOf x g1) g1
def evl : EL → Env → G → R (List W)
  | .nil, _, g => .ok [] g
  | .cons e r, ρ, g => (ev e ρ g).bind fun x g1 => (evl r ρ g1).bind fun xs g2 => .ok (x :: xs) g2
def src : Src → Env → G → R Cur
  | .seq e, ρ, g => (ev e ρ g).bind fun x g1 => match x with
    | .tup ws => .ok (.vals ws) g1
    | .str s => .ok (.vals (s.map fun c => .str [c])) g1
    | .fl ws => .ok (.vals ws) g1
    | .ref p => match g1[p]? with
      | some (.lst _) => .ok (.live p) g1
      | some (.dct kvs) => .ok (.vals (kvs.map (·.1))) (g1.set p (.fz kvs))
      | some (.fz kvs) => .ok (.vals (kvs.map (·.1))) g1
      | _ => .err
    | _ => .err
  | .rng1 a, ρ, g => (ev a ρ g).bind fun x g1 => match x with
    | .int n => if n ≤ lim ∧ -lim ≤ n then .ok (.vals ((List.range n.toNat).map fun (k : Nat) => W.int k)) g1 else .err
    | _ => .err
  | .rng2 a b, ρ, g => (ev a ρ g).bind fun x g1 => (ev b ρ g1).bind fun y g2 => match x, y with
    | .int m, .int n => if n ≤ lim ∧ -lim ≤ n ∧ m ≤ lim ∧ -lim ≤ m then .ok (.vals ((List.range (n - m).toNat).map fun (k : Nat) => W.int (m + k))) g2 else .err
    | _, _ => .err
  | .rng3 _ _ _, _, _ => .err
  | .enum e, ρ, g => (ev e ρ g).bind fun x g1 => match x with
    | .tup ws => .ok (.vals (ws.mapIdx fun (i : Nat) w => W.tup [.int i, w])) g1
    | .ref p => match g1[p]? with
      | some (.lst _) => .ok (.lenum p) g1
      | _ => .err
    | _ => .err
  | .zip a b, ρ, g => (ev a ρ g).bind fun x g1 => (ev b ρ g1).bind fun y g2 => match x, y with
    | .ref p, .ref q => match g2[p]?, g2[q]? with
      | some (.lst _), some (.lst _) => .ok (.lzip p q) g2
      | _, _ => .err
    | .tup ws, .tup us => .ok (.vals ((ws.zip us).map fun q => W.tup [q.1, q.2])) g2
    | _, _ => .err
end
/-- a[b] = w, a a list -/
def putL (a b : E) (w : W) (ρ : Env) (g : G) (k : G → RS) : RS := RS.of (ev T call a ρ g) ρ fun o g1 => RS.of (ev T call b ρ g1) ρ fun i g2 => match o, i with
  | .ref p, .int i => match g2[p]? with
    | some (.lst ws) => match ixW ws.length i with
      | some j => k (g2.set p (.lst (ws.set j w)))
      | none => .err
    | _ => .err
  | _, _ => .err
mutual
def ex : S → Env → G → RS
  | .asg t e, ρ, g => RS.of (ev T call e ρ g) ρ fun w g1 => match t.putS w ρ g1 with
    | some ρ' => .go .nx ρ' g1
    | none => .err
  | .put a b e, ρ, g => RS.of (ev T call e ρ g) ρ fun w g1 => RS.of (ev T call a ρ g1) ρ fun x g2 => RS.of (ev T call b ρ g2) ρ fun y g3 => match x with
    | .ref p => match g3[p]?, y with
      | some (.lst ws), .int i => match ixW ws.length i with
        | some j => .go .nx ρ (g3.set p (.lst (ws.set j w)))
        | none => .err
      | some (.dct kvs), k => if fits kvs k ∧ kvs.length < lim then .go .nx ρ (g3.set p (.dct (putD kvs k w))) else .err
      | _, _ => .err
    | _ => .err
  | .setf o f e, ρ, g => RS.of (ev T call e ρ g) ρ fun w g1 => RS.of (ev T call o ρ g1) ρ fun x g2 => match x with
    | .ref p => match g2[p]? with
      | some (.ins c fs) => if fs.length < 900 then .go .nx ρ (g2.set p (.ins c (putFW f w fs))) else .err
      | _ => .err
    | _ => .err
  | .aug i o e, ρ, g => match ρ[i]? with
    | some (some x) => RS.of (ev T call e ρ g) ρ fun y g1 => match x, y with
      | .int a, .int b => match o with
        | .add => .go .nx (ρ.set i (some (.int (a + b)))) g1
        | .sub => .go .nx (ρ.set i (some (.int (a - b)))) g1
        | _ => .err
      | _, _ => .err
    | _ => .err
  | .augf a f o e, ρ, g => RS.of (ev T call a ρ g) ρ fun x g1 => match x with
    | .ref p => match g1[p]? with
      | some (.ins c0 fs) => match getF fs f with
        | some u => RS.of (ev T call e ρ g1) ρ fun y g2 => match u, y, g2[p]? with
          | .int i, .int j, some (.ins c fs2) => match o with
            | .add => if c = c0 ∧ fs2.length < 900 then .go .nx ρ (g2.set p (.ins c (putFW f (.int (i + j)) fs2))) else .err
            | .sub => if c = c0 ∧ fs2.length < 900 then .go .nx ρ (g2.set p (.ins c (putFW f (.int (i - j)) fs2))) else .err
            | _ => .err
          | _, _, _ => .err
        | none => .err
      | _ => .err
    | _ => .err
  | .augi _ _ _ _, _, _ => .err
  | .swap a b c d x y, ρ, g => RS.of (evl T call (.cons x (.cons y .nil)) ρ g) ρ fun ws g1 => match ws with
    | [w1, w2] => putL T call a b w1 ρ g1 fun g2 => putL T call c d w2 ρ g2 fun g3 => .go .nx ρ g3
    | _ => .err
  | .ifs c a b, ρ, g => RS.of (tst T call c ρ g) ρ fun k g1 => match k with
    | true => exs a ρ g1
    | false => exs b ρ g1
  | .whl c b, ρ, g => Dl.whl (tst T call c) (exs b) FUEL ρ g
  | .for_ t s b, ρ, g => RS.of (src T call s ρ g) ρ fun cur g1 => match cur with
    | .vals ws => forV t (exs b) ws ρ g1
    | cur => forL t (exs b) cur FUEL 0 ρ g1
  | .ret e, ρ, g => RS.of (ev T call e ρ g) ρ fun w g1 => .go (.ret w) ρ g1
  | .retn, ρ, g => .go (.ret .non) ρ g
  | .expr e, ρ, g => RS.of (ev T call e ρ g) ρ fun _ g1 => .go .nx ρ g1
  | .brk, ρ, g => .go .brk ρ g
  | .cnt, ρ, g => .go .cnt ρ g
  | .pass, ρ, g => .go .nx ρ g
  | .rais c, ρ, g => .exc c ρ g
  | .tryc b k i w, ρ, g => match exs b ρ g with
    | .exc k' ρ' g' => if k' = k ∧ i < ρ'.length then .go (.ret w) ρ' g' else .err
    | r => r
def exs : SL → Env → G → RS
  | .nil, ρ, g => .go .nx ρ g
  | .cons s r, ρ, g => (ex s ρ g).andThen fun ρ1 g1 => exs r ρ1 g1
end
end
/-- what a call leaves: nothing new, where nothing of the old hangs on what is new, and it hands back nothing of its own -/
def gc (g : G) (w : W) (g' : G) : G := if below g.length w && gpre g.length g g' then g'.take g.length else g'
def startE (n : Nat) (ws : List W) : Env := ws.map some ++ List.replicate (n - ws.length) none
def Fn.run (T : Tbl) (call : CallF) (f : Fn) (ws : List W) (g : G) : R W :=
  if ws.length = f.np then match exs T call f.body (startE f.nn ws) g with
    | .go (.ret w) _ g' => .ok w (gc g w g')
    | .go .nx _ g' => .ok .non (gc g .non g')
    | .exc c _ g' => .exc c (gc g .non g')
    | _ => .err
  else .err
/-- calls, k deep at most -/
def callN (T : Tbl) : Nat → CallF
  | 0, _, _, _ => .err
  | k + 1, f, ws, g => match T.fns[f]? with
    | some fn => fn.run T (callN T k) ws g
    | none => .err
end Dl

/-! DlB: how the interpreter's values and heap lie in the layer's; its readings. -/
namespace Dl
open PySem L2

/-- the written part, the addresses of the classes and of the exceptions' classes -/
structure Px where
  K : PySem.W.Frag
  ca : Nat → Addr
  xa : Nat → Addr
  nc : Nat
  /-- a dict of the module's top, keys texts -/
  kd : Addr → Prop
/-- a list that is read alone -/
def SqF (K : PySem.W.Frag) (H : Hp) (a : Addr) (xs : List V) : Prop :=
  (∃ o, H a = some (.frz o (.lst xs))) ∨
    ∃ (o : Obj) (its : Array Value) (n : Nat), K.lookup a = some o ∧ o.cls = .type "list" ∧ o.dict = none ∧ o.data = .seq its n ∧ its.size ≤ sizeLine ∧ Vals xs its.toList
theorem SqF.sq {K : PySem.W.Frag} {H : Hp} {a : Addr} {xs : List V} (h : SqF K H a xs) : SqL K H a xs := by
  rcases h with h | h
  · exact .inl (.inr h)
  · exact .inr h
abbrev strV (s : List Nat) : Str := ⟨s.toArray⟩
mutual
def RepV (p : Px) (α : List Addr) (H : Hp) : W → V → Prop
  | .non, v => v = .non
  | .bl b, v => v = .bl b
  | .int i, v => v = .int i
  | .str s, v => v = .str (strV s)
  | .tup ws, v => ∃ a vs, v = .ref a ∧ SqT p.K H a vs ∧ RepVs p α H ws vs
  | .ref i, v => ∃ a, v = .ref a ∧ α[i]? = some a
  | .exn _, v => ∃ a, v = .ref a
  | .fl ws, v => ∃ a vs, v = .ref a ∧ SqF p.K H a vs ∧ RepVs p α H ws vs
  | .fd ks ws, v => ∃ a us vs, v = .ref a ∧ p.kd a ∧ Vals vs us ∧ us.length = ks.length ∧ (∀ z : List Nat, PySem.W.nsIn p.K a (strV z) = some ((ks.zip us).lookup z)) ∧ RepVs p α H ws vs
def RepVs (p : Px) (α : List Addr) (H : Hp) : List W → List V → Prop
  | [], vs => vs = []
  | w :: r, vs => ∃ v q, vs = v :: q ∧ RepV p α H w v ∧ RepVs p α H r q
end
/-- tuples stay -/
structure Keep (H H' : Hp) : Prop where
  t : ∀ a xs, H a = some (.tup xs) → H' a = some (.tup xs)
  f : ∀ a o u, H a = some (.frz o u) → H' a = some (.frz o u)
theorem Keep.refl (H : Hp) : Keep H H := ⟨fun _ _ e => e, fun _ _ _ e => e⟩
theorem Keep.trans {H H1 H2 : Hp} (a : Keep H H1) (b : Keep H1 H2) : Keep H H2 := ⟨fun c xs e => b.t c xs (a.t c xs e), fun c o u e => b.f c o u (a.f c o u e)⟩
theorem Keep.sq {K : PySem.W.Frag} {H H' : Hp} (k : Keep H H') {a : Addr} {xs : List V} (h : SqT K H a xs) : SqT K H' a xs := by
  rcases h with (h | ⟨o, h⟩) | h
  · exact .inl (.inl (k.t _ _ h))
  · exact .inl (.inr ⟨o, k.f _ _ _ h⟩)
  · exact .inr h
theorem SqF.mono {K : PySem.W.Frag} {H H' : Hp} {a : Addr} {xs : List V} (k : Keep H H') (h : SqF K H a xs) : SqF K H' a xs := by
  rcases h with ⟨o, h⟩ | h
  · exact .inl ⟨o, k.f _ _ _ h⟩
  · exact .inr h
theorem Keep.new {H : Hp} {q : Addr} {o : HO} (h : H q = none) : Keep H (upd H q o) :=
  ⟨fun a xs e => by rw [upd_ne (ne_of_none e h)]; exact e, fun a o u e => by rw [upd_ne (ne_of_none e h)]; exact e⟩
theorem Keep.write {H : Hp} {q : Addr} {o : HO} (m : Mut (H q)) : Keep H (upd H q o) :=
  ⟨fun a xs e => by
    rw [upd_ne]
    · exact e
    · rintro rfl; rw [e] at m; exact m, fun a o u e => by
    rw [upd_ne]
    · exact e
    · rintro rfl; rw [e] at m; exact m⟩
abbrev Pre (α α' : List Addr) : Prop := ∃ m, α' = α ++ m
theorem Pre.refl (α : List Addr) : Pre α α := ⟨[], by simp⟩
theorem Pre.trans {a b c : List Addr} (h : Pre a b) (k : Pre b c) : Pre a c := by
  obtain ⟨m, rfl⟩ := h
  obtain ⟨n, rfl⟩ := k
  exact ⟨m ++ n, by simp⟩
theorem Pre.get {a b : List Addr} (h : Pre a b) {i : Nat} {x : Addr} (e : a[i]? = some x) : b[i]? = some x := by
  obtain ⟨m, rfl⟩ := h
  rw [List.getElem?_append_left (List.getElem?_eq_some_iff.mp e).1]
  exact e
mutual
theorem RepV.mono0 {p : Px} {α α' : List Addr} {H H' : Hp} (h1 : Pre α α') (h2 : Keep H H') : ∀ {w : W} {v : V}, RepV p α H w v → RepV p α' H' w v
  | .non, _, h => by simpa only [RepV] using h
  | .bl _, _, h => by simpa only [RepV] using h
  | .int _, _, h => by simpa only [RepV] using h
  | .str _, _, h => by simpa only [RepV] using h
  | .tup ws, _, h => by
    simp only [RepV] at h ⊢
    obtain ⟨a, vs, e, s, r⟩ := h
    exact ⟨a, vs, e, h2.sq s, RepVs.mono0 h1 h2 r⟩
  | .ref _, _, h => by
    simp only [RepV] at h ⊢
    obtain ⟨a, e, s⟩ := h
    exact ⟨a, e, h1.get s⟩
  | .exn _, _, h => by simpa only [RepV] using h
  | .fl ws, _, h => by
    simp only [RepV] at h ⊢
    obtain ⟨a, vs, e, s, r⟩ := h
    exact ⟨a, vs, e, s.mono h2, RepVs.mono0 h1 h2 r⟩
  | .fd ks ws, _, h => by
    simp only [RepV] at h ⊢
    obtain ⟨a, us, vs, e, s, k, l, m, r⟩ := h
    exact ⟨a, us, vs, e, s, k, l, m, RepVs.mono0 h1 h2 r⟩
theorem RepVs.mono0 {p : Px} {α α' : List Addr} {H H' : Hp} (h1 : Pre α α') (h2 : Keep H H') : ∀ {ws : List W} {vs : List V}, RepVs p α H ws vs → RepVs p α' H' ws vs
  | [], _, h => by simpa only [RepVs] using h
  | w :: r, _, h => by
    simp only [RepVs] at h ⊢
    obtain ⟨v, q, e, a, b⟩ := h
    exact ⟨v, q, e, RepV.mono0 h1 h2 a, RepVs.mono0 h1 h2 b⟩
end
section
variable {p : Px} {α : List Addr} {H : Hp}
theorem RepVs.nil : RepVs p α H [] [] := by simp only [RepVs]
theorem RepVs.cons {w : W} {v : V} {ws : List W} {vs : List V} (a : RepV p α H w v) (b : RepVs p α H ws vs) : RepVs p α H (w :: ws) (v :: vs) := by
  simp only [RepVs]; exact ⟨v, vs, rfl, a, b⟩
theorem RepVs.nil' {vs : List V} (h : RepVs p α H [] vs) : vs = [] := by simpa only [RepVs] using h
theorem RepVs.cons' {w : W} {ws : List W} {vs : List V} (h : RepVs p α H (w :: ws) vs) : ∃ v q, vs = v :: q ∧ RepV p α H w v ∧ RepVs p α H ws q := by simpa only [RepVs] using h
theorem RepVs.length : ∀ {ws : List W} {vs : List V}, RepVs p α H ws vs → ws.length = vs.length
  | [], _, h => by rw [h.nil']; rfl
  | _ :: _, _, h => by
    obtain ⟨v, q, e, _, b⟩ := h.cons'
    rw [e]; simp [RepVs.length b]
theorem RepVs.append : ∀ {ws us : List W} {vs ys : List V}, RepVs p α H ws vs → RepVs p α H us ys → RepVs p α H (ws ++ us) (vs ++ ys)
  | [], _, _, _, h, k => by rw [h.nil']; exact k
  | _ :: _, _, _, _, h, k => by
    obtain ⟨v, q, e, a, b⟩ := h.cons'
    rw [e]; exact .cons a (RepVs.append b k)
theorem RepVs.get : ∀ {ws : List W} {vs : List V} {i : Nat} {w : W}, RepVs p α H ws vs → ws[i]? = some w → ∃ v, vs[i]? = some v ∧ RepV p α H w v
  | [], _, _, _, _, k => by simp at k
  | _ :: _, _, 0, _, h, k => by
    obtain ⟨v, q, e, a, b⟩ := h.cons'
    simp at k; subst k; exact ⟨v, by rw [e]; rfl, a⟩
  | _ :: _, _, i + 1, _, h, k => by
    obtain ⟨v, q, e, a, b⟩ := h.cons'
    obtain ⟨x, e1, e2⟩ := RepVs.get (i := i) b (by simpa using k)
    exact ⟨x, by rw [e]; simpa using e1, e2⟩
theorem RepVs.getN {ws : List W} {vs : List V} {i : Nat} (h : RepVs p α H ws vs) (e : ws[i]? = none) : vs[i]? = none := by
  have := h.length
  have := List.getElem?_eq_none_iff.mp e
  exact List.getElem?_eq_none_iff.mpr (by omega)
theorem RepVs.take : ∀ {ws : List W} {vs : List V} (n : Nat), RepVs p α H ws vs → RepVs p α H (ws.take n) (vs.take n)
  | _, _, 0, _ => by simp only [List.take_zero]; exact .nil
  | [], _, n + 1, h => by rw [h.nil']; exact .nil
  | _ :: _, _, n + 1, h => by
    obtain ⟨v, q, e, a, b⟩ := h.cons'
    rw [e]; exact .cons a (RepVs.take n b)
theorem RepVs.drop : ∀ {ws : List W} {vs : List V} (n : Nat), RepVs p α H ws vs → RepVs p α H (ws.drop n) (vs.drop n)
  | _, _, 0, h => h
  | [], _, n + 1, h => by rw [h.nil']; exact .nil
  | _ :: _, _, n + 1, h => by
    obtain ⟨v, q, e, a, b⟩ := h.cons'
    rw [e]; exact RepVs.drop n b
theorem RepVs.set {w : W} {v : V} (r : RepV p α H w v) : ∀ {ws : List W} {vs : List V} (n : Nat), RepVs p α H ws vs → RepVs p α H (ws.set n w) (vs.set n v)
  | [], _, _, h => by rw [h.nil']; exact .nil
  | _ :: _, _, 0, h => by
    obtain ⟨v, q, e, a, b⟩ := h.cons'
    rw [e]; exact .cons r b
  | _ :: _, _, n + 1, h => by
    obtain ⟨v, q, e, a, b⟩ := h.cons'
    rw [e]; exact .cons a (RepVs.set r n b)
theorem RepVs.rev {ws : List W} {vs : List V} (h : RepVs p α H ws vs) : RepVs p α H ws.reverse vs.reverse := by
  induction ws generalizing vs with
  | nil => rw [h.nil']; exact .nil
  | cons w r ih =>
    obtain ⟨v, q, e, a, b⟩ := h.cons'
    rw [e]; simp only [List.reverse_cons]; exact (ih b).append (.cons a .nil)
theorem RepVs.rep {ws : List W} {vs : List V} (h : RepVs p α H ws vs) : ∀ k : Nat, RepVs p α H (List.replicate k ws).flatten (List.replicate k vs).flatten
  | 0 => .nil
  | k + 1 => by
    simp only [List.replicate_succ, List.flatten_cons]
    exact h.append (RepVs.rep h k)
theorem RepVs.dropLast {ws : List W} {vs : List V} (h : RepVs p α H ws vs) : RepVs p α H ws.dropLast vs.dropLast := by
  rw [List.dropLast_eq_take, List.dropLast_eq_take, h.length]; exact h.take _
end

/-! ### objects -/
abbrev nmS (f : Nm) : Str := ⟨f.toArray⟩
def RepFs (p : Px) (α : List Addr) (H : Hp) : List (Nm × W) → List (Str × V) → Prop
  | [], fs => fs = []
  | (a, w) :: r, fs => ∃ v q, fs = (nmS a, v) :: q ∧ RepV p α H w v ∧ RepFs p α H r q
/-- keys -/
def keyK : W → Option Key
  | .int i => some (.inl i)
  | .str s => some (.inr (strV s))
  | _ => none
def RepKV (p : Px) (α : List Addr) (H : Hp) : List (W × W) → List (Key × V) → Prop
  | [], fs => fs = []
  | (a, w) :: r, fs => ∃ k v q, fs = (k, v) :: q ∧ keyK a = some k ∧ RepV p α H w v ∧ RepKV p α H r q
def RepO (p : Px) (α : List Addr) (H : Hp) (a : Addr) : Ob → Prop
  | .lst ws => ∃ vs, H a = some (.lst vs) ∧ RepVs p α H ws vs
  | .dct kvs => ∃ kvs', H a = some (.dK kvs') ∧ RepKV p α H kvs kvs'
  | .fz kvs => ∃ o kvs', H a = some (.frz o (.dK kvs')) ∧ RepKV p α H kvs kvs'
  | .set _ => False
  | .ins c fs => ∃ dx fs', H a = some (.ins (p.ca c) dx fs') ∧ c < p.nc ∧ RepFs p α H fs fs'
theorem RepFs.mono {p : Px} {α α' : List Addr} {H H' : Hp} (h1 : Pre α α') (h2 : Keep H H') : ∀ {ws : List (Nm × W)} {vs : List (Str × V)}, RepFs p α H ws vs → RepFs p α' H' ws vs
  | [], _, h => h
  | (_, _) :: _, _, ⟨v, q, e, a, b⟩ => ⟨v, q, e, a.mono0 h1 h2, RepFs.mono h1 h2 b⟩
theorem RepKV.mono {p : Px} {α α' : List Addr} {H H' : Hp} (h1 : Pre α α') (h2 : Keep H H') : ∀ {ws : List (W × W)} {vs : List (Key × V)}, RepKV p α H ws vs → RepKV p α' H' ws vs
  | [], _, h => h
  | (_, _) :: _, _, ⟨k, v, q, e, x, a, b⟩ => ⟨k, v, q, e, x, a.mono0 h1 h2, RepKV.mono h1 h2 b⟩
/-- where the object itself stays -/
theorem RepO.mono {p : Px} {α α' : List Addr} {H H' : Hp} {a : Addr} {o : Ob} (h1 : Pre α α') (h2 : Keep H H') (h : RepO p α H a o) (e : H' a = H a) : RepO p α' H' a o := by
  cases o with
  | lst ws => obtain ⟨vs, x, r⟩ := h; exact ⟨vs, by rw [e]; exact x, r.mono0 h1 h2⟩
  | dct kvs => obtain ⟨vs, x, r⟩ := h; exact ⟨vs, by rw [e]; exact x, r.mono h1 h2⟩
  | fz kvs => obtain ⟨od, vs, x, r⟩ := h; exact ⟨od, vs, by rw [e]; exact x, r.mono h1 h2⟩
  | set _ => exact h
  | ins c fs => obtain ⟨dx, vs, x, n, r⟩ := h; exact ⟨dx, vs, by rw [e]; exact x, n, r.mono h1 h2⟩
theorem RepO.mut {p : Px} {α : List Addr} {H : Hp} {a : Addr} {o : Ob} (h : RepO p α H a o) (nf : ∀ k, o ≠ .fz k) : Mut (H a) := by
  cases o with
  | lst ws => obtain ⟨vs, x, r⟩ := h; rw [x]; trivial
  | dct kvs => obtain ⟨vs, x, r⟩ := h; rw [x]; trivial
  | fz kvs => exact absurd rfl (nf kvs)
  | set _ => exact h.elim
  | ins c fs => obtain ⟨dx, vs, x, r⟩ := h; rw [x]; trivial
theorem RepO.there {p : Px} {α : List Addr} {H : Hp} {a : Addr} {o : Ob} (h : RepO p α H a o) : ∃ u, H a = some u ∧ (Mut (some u) ∨ ∃ od v, u = .frz od v) := by
  cases o with
  | lst ws => obtain ⟨vs, x, r⟩ := h; exact ⟨_, x, .inl trivial⟩
  | dct kvs => obtain ⟨vs, x, r⟩ := h; exact ⟨_, x, .inl trivial⟩
  | fz kvs => obtain ⟨od, vs, x, r⟩ := h; exact ⟨_, x, .inr ⟨od, _, rfl⟩⟩
  | set _ => exact h.elim
  | ins c fs => obtain ⟨dx, vs, x, r⟩ := h; exact ⟨_, x, .inl trivial⟩

structure Sim (p : Px) (α : List Addr) (g : G) (H : Hp) : Prop where
  len : α.length = g.length
  ob : ∀ (i : Nat) (o : Ob) (a : Addr), g[i]? = some o → α[i]? = some a → RepO p α H a o
  nd : α.Nodup
theorem Sim.at_ {p : Px} {α : List Addr} {g : G} {H : Hp} (s : Sim p α g H) {i : Nat} {o : Ob} (e : g[i]? = some o) : ∃ a, α[i]? = some a ∧ RepO p α H a o := by
  have h := (List.getElem?_eq_some_iff.mp e).1
  have h2 : i < α.length := by rw [s.len]; exact h
  exact ⟨α[i], by simp [h2], s.ob i o _ e (by simp [h2])⟩
theorem Sim.trk {p : Px} {α : List Addr} {g : G} {H : Hp} (s : Sim p α g H) {a : Addr} (h : a ∈ α) : ∃ u, H a = some u := by
  obtain ⟨i, hi⟩ := List.mem_iff_getElem?.mp h
  have : i < g.length := by rw [← s.len]; exact (List.getElem?_eq_some_iff.mp hi).1
  obtain ⟨u, hu, _⟩ := (s.ob i g[i] a (by simp [this]) hi).there
  exact ⟨u, hu⟩
theorem Sim.ix {p : Px} {α : List Addr} {g : G} {H : Hp} (s : Sim p α g H) {i j : Nat} {a : Addr} (e : α[i]? = some a) (f : α[j]? = some a) : i = j :=
  (List.getElem?_inj (List.getElem?_eq_some_iff.mp e).1 s.nd).mp (e.trans f.symm)
/-- the heap beyond grows, tuples stay -/
theorem Sim.mono {p : Px} {α : List Addr} {g : G} {H H' : Hp} (s : Sim p α g H) (k : Keep H H') (h : ∀ a u, H a = some u → Mut (some u) → a ∈ α → H' a = H a) : Sim p α g H' :=
  ⟨s.len, fun i o a e1 e2 => (s.ob i o a e1 e2).mono (.refl _) k (by
    obtain ⟨u, hu, mu⟩ := (s.ob i o a e1 e2).there
    rcases mu with mu | ⟨od, v, rfl⟩
    · exact h a u hu mu (List.mem_of_getElem? e2)
    · rw [hu]; exact k.f _ _ _ hu), s.nd⟩
/-- a new object that we don't track -/
theorem Sim.junk {p : Px} {α : List Addr} {g : G} {H : Hp} {q : Addr} {u : HO} (s : Sim p α g H) (h : H q = none) : Sim p α g (upd H q u) :=
  s.mono (.new h) fun a v e _ _ => by rw [upd_ne (ne_of_none e h)]
theorem Sim.new {p : Px} {α : List Addr} {g : G} {H : Hp} {q : Addr} {u : HO} {o : Ob} (s : Sim p α g H) (h : H q = none) (r : RepO p (α ++ [q]) (upd H q u) q o) : Sim p (α ++ [q]) (g ++ [o]) (upd H q u) := by
  have lt : ∀ {i : Nat} {o' : Ob} {a : Addr}, (g ++ [o])[i]? = some o' → (α ++ [q])[i]? = some a → (g[i]? = some o' ∧ α[i]? = some a) ∨ (i = g.length ∧ o' = o ∧ a = q) := by
    intro i o' a e1 e2
    by_cases hi : i < g.length
    · rw [List.getElem?_append_left hi] at e1
      rw [List.getElem?_append_left (by rw [s.len]; exact hi)] at e2
      exact .inl ⟨e1, e2⟩
    · have : i = g.length := by
        have := (List.getElem?_eq_some_iff.mp e1).1
        simp at this
        omega
      subst this
      rw [List.getElem?_append_right (Nat.le_refl _)] at e1
      rw [← s.len, List.getElem?_append_right (Nat.le_refl _)] at e2
      simp at e1 e2
      exact .inr ⟨rfl, e1.symm, e2.symm⟩
  refine ⟨by simp [s.len], fun i o' a e1 e2 => ?_, ?_⟩
  · rcases lt e1 e2 with ⟨x, y⟩ | ⟨x, y, z⟩
    · refine (s.ob i o' a x y).mono ⟨[q], rfl⟩ (.new h) ?_
      obtain ⟨v, hv, _⟩ := (s.ob i o' a x y).there
      rw [upd_ne (ne_of_none hv h)]
    · subst y z; exact r
  · rw [List.nodup_append]
    refine ⟨s.nd, by simp, fun a ha b hb => ?_⟩
    have : b = q := by simpa using hb
    subst this
    obtain ⟨v, hv⟩ := s.trk ha
    exact ne_of_none hv h
/-- an object is written -/
theorem Sim.write {p : Px} {α : List Addr} {g : G} {H : Hp} {i : Nat} {a : Addr} {u : HO} {o o' : Ob} (s : Sim p α g H) (e : g[i]? = some o) (ea : α[i]? = some a) (r : RepO p α (upd H a u) a o') (nf : ∀ k, o ≠ .fz k := by intro k h; cases h) : Sim p α (g.set i o') (upd H a u) := by
  have hk : Keep H (upd H a u) := .write ((s.ob i o a e ea).mut nf)
  have hi : i < g.length := (List.getElem?_eq_some_iff.mp e).1
  refine ⟨by simp [s.len], fun j oj b e1 e2 => ?_, s.nd⟩
  by_cases hj : j = i
  · subst hj
    rw [List.getElem?_set_self hi] at e1
    cases e1
    rw [ea] at e2
    cases e2
    exact r
  · rw [List.getElem?_set_ne (Ne.symm hj)] at e1
    refine (s.ob j oj b e1 e2).mono (.refl _) hk ?_
    rw [upd_ne]
    rintro rfl
    exact hj (s.ix e2 ea)
/-- what an evaluation leaves: old names keep their addresses, tuples stay, what is not named stays and is not named -/
structure Kp (α : List Addr) (H : Hp) (α' : List Addr) (H' : Hp) : Prop where
  pre : Pre α α'
  kp : Keep H H'
  fr : ∀ a u, H a = some u → a ∉ α → H' a = some u ∧ a ∉ α'
theorem Kp.refl (α : List Addr) (H : Hp) : Kp α H α H := ⟨.refl _, .refl _, fun _ _ e n => ⟨e, n⟩⟩
theorem Kp.trans {α α1 α2 : List Addr} {H H1 H2 : Hp} (a : Kp α H α1 H1) (b : Kp α1 H1 α2 H2) : Kp α H α2 H2 :=
  ⟨a.pre.trans b.pre, a.kp.trans b.kp, fun c u e n => let ⟨e1, n1⟩ := a.fr c u e n; b.fr c u e1 n1⟩
theorem Kp.junk {α : List Addr} {H : Hp} {q : Addr} {o : HO} (h : H q = none) : Kp α H α (upd H q o) :=
  ⟨.refl _, .new h, fun a u e n => ⟨by rw [upd_ne (ne_of_none e h)]; exact e, n⟩⟩
theorem Kp.new {α : List Addr} {H : Hp} {q : Addr} {o : HO} (h : H q = none) : Kp α H (α ++ [q]) (upd H q o) :=
  ⟨⟨[q], rfl⟩, .new h, fun a u e n => ⟨by rw [upd_ne (ne_of_none e h)]; exact e, by
    intro hm
    rcases List.mem_append.mp hm with hm | hm
    · exact n hm
    · exact ne_of_none e h (by simpa using hm)⟩⟩
theorem Kp.write {α : List Addr} {H : Hp} {q : Addr} {o : HO} (m : Mut (H q)) (hq : q ∈ α) : Kp α H α (upd H q o) :=
  ⟨.refl _, .write m, fun a u e n => ⟨by
    rw [upd_ne]
    · exact e
    · rintro rfl; exact n hq, n⟩⟩
theorem RepV.mono {p : Px} {α α' : List Addr} {H H' : Hp} (k : Kp α H α' H') {w : W} {v : V} (h : RepV p α H w v) : RepV p α' H' w v := h.mono0 k.pre k.kp
theorem RepVs.mono {p : Px} {α α' : List Addr} {H H' : Hp} (k : Kp α H α' H') {w : List W} {v : List V} (h : RepVs p α H w v) : RepVs p α' H' w v := h.mono0 k.pre k.kp
/-! ### slots -/
structure SimSt (p : Px) (α : List Addr) (H : Hp) (ρ : Env) (σ : St) : Prop where
  len : ρ.length = σ.length
  at_ : ∀ (i : Nat) (w : W), ρ[i]? = some (some w) → ∃ v, σ[i]? = some (some v) ∧ RepV p α H w v
theorem SimSt.mono {p : Px} {α α' : List Addr} {H H' : Hp} {ρ : Env} {σ : St} (k : Kp α H α' H') (s : SimSt p α H ρ σ) : SimSt p α' H' ρ σ :=
  ⟨s.len, fun i w e => let ⟨v, x, r⟩ := s.at_ i w e; ⟨v, x, r.mono k⟩⟩
theorem SimSt.set {p : Px} {α : List Addr} {H : Hp} {ρ : Env} {σ : St} {w : W} {v : V} (s : SimSt p α H ρ σ) (i : Nat) (r : RepV p α H w v) : SimSt p α H (ρ.set i (some w)) (σ.set i (some v)) := by
  refine ⟨by simp [s.len], fun j x e => ?_⟩
  by_cases hj : i = j
  · subst hj
    have hi : i < ρ.length := by have := (List.getElem?_eq_some_iff.mp e).1; simpa using this
    rw [List.getElem?_set_self hi] at e
    cases e
    exact ⟨v, List.getElem?_set_self (by rw [← s.len]; exact hi), r⟩
  · rw [List.getElem?_set_ne hj] at e
    obtain ⟨y, x1, x2⟩ := s.at_ j x e
    exact ⟨y, by rw [List.getElem?_set_ne hj]; exact x1, x2⟩
theorem SimSt.setN {p : Px} {α : List Addr} {H : Hp} {ρ : Env} {σ : St} (s : SimSt p α H ρ σ) (i : Nat) : SimSt p α H (ρ.set i none) (σ.set i none) := by
  refine ⟨by simp [s.len], fun j x e => ?_⟩
  by_cases hj : i = j
  · subst hj
    have hi : i < ρ.length := by have := (List.getElem?_eq_some_iff.mp e).1; simpa using this
    rw [List.getElem?_set_self hi] at e
    cases e
  · rw [List.getElem?_set_ne hj] at e
    obtain ⟨y, x1, x2⟩ := s.at_ j x e
    exact ⟨y, by rw [List.getElem?_set_ne hj]; exact x1, x2⟩
theorem SimSt.wipe {p : Px} {α : List Addr} {H : Hp} {ρ : Env} {σ : St} (s : SimSt p α H ρ σ) : ∀ vs : List Nat, SimSt p α H (wipeE ρ vs) (wipe σ vs)
  | [] => s
  | v :: vs => (SimSt.wipe s vs).setN v

/-! ### readings -/
section
variable (p : Px) (Wx : WX)
/-- what a result has to give -/
def post {β γ : Type} (Rp : List Addr → Hp → β → γ → Prop) (r : R β) (α : List Addr) (H : Hp) (σ : St) (Q : γ → Hp → Prop) : Prop := match r with
  | .ok w g' => ∀ α' H' v, Kp α H α' H' → Sim p α' g' H' → Rp α' H' w v → Q v H'
  | .exc c g' => ∀ α' H', Kp α H α' H' → Sim p α' g' H' → Wx (.ref (p.xa c)) none σ H'
  | .err => False
def tG {β γ : Type} (Rp : List Addr → Hp → β → γ → Prop) (f : Env → G → R β) : St → Hp → (γ → Hp → Prop) → Prop := fun σ H Q =>
  ∃ α ρ g, Sim p α g H ∧ SimSt p α H ρ σ ∧ post p Wx Rp (f ρ g) α H σ Q
abbrev tE (f : Env → G → R W) : TE := tG p Wx (RepV p) f
abbrev tB (f : Env → G → R Bool) : TT := tG p Wx (fun _ _ b c => c = b) f
abbrev tA (f : Env → G → R (List W)) : TA := tG p Wx (RepVs p) f
end
section
variable {p : Px} {Wx : WX} {β γ δ ε : Type} {Rp : List Addr → Hp → β → γ → Prop} {Rq : List Addr → Hp → δ → ε → Prop} {α α' : List Addr} {H H' : Hp} {σ : St} {Q Q' : γ → Hp → Prop}
theorem post.imp {r : R β} (h : post p Wx Rp r α H σ Q) (f : ∀ v H', Keep H H' → Q v H' → Q' v H') : post p Wx Rp r α H σ Q' := by
  cases r with
  | ok w g => exact fun α' H' v b c d => f _ _ b.kp (h α' H' v b c d)
  | exc c g => exact h
  | err => exact h
theorem post.mono {r : R β} (h : post p Wx Rp r α H σ Q) (k : Kp α H α' H') : post p Wx Rp r α' H' σ Q := by
  cases r with
  | ok w g => exact fun α2 H2 v b c d => h α2 H2 v (k.trans b) c d
  | exc c g => exact fun α2 H2 b c => h α2 H2 (k.trans b) c
  | err => exact h
theorem post.bind {r : R δ} {k : δ → G → R β} (h : post p Wx Rp (r.bind k) α H σ Q) :
    post p Wx Rq r α H σ (fun x H1 => ∃ α1 g1 w, Kp α H α1 H1 ∧ Sim p α1 g1 H1 ∧ Rq α1 H1 w x ∧ post p Wx Rp (k w g1) α1 H1 σ Q) := by
  cases r with
  | ok w g => exact fun α1 H1 v b c d => ⟨α1, g, w, b, c, d, post.mono h b⟩
  | exc c g => exact h
  | err => exact h
theorem post.ok {w : β} {g : G} {v : γ} (h : post p Wx Rp (.ok w g) α H σ Q) (s : Sim p α g H) (r : Rp α H w v) : Q v H := h α H v (.refl _ _) s r
theorem post.of {g : G} {o : Option β} (h : post p Wx Rp (.of o g) α H σ Q) : ∃ w, o = some w ∧ post p Wx Rp (.ok w g) α H σ Q := by
  cases o with
  | none => exact h.elim
  | some w => exact ⟨w, rfl, h⟩
end
/-- a derivation may be chosen for the state at hand -/
theorem PE.by {X : Cx} {e : Expr} {t : TE} (h : ∀ σ H Q, t σ H Q → ∃ t', PE X e t' ∧ t' σ H Q) : PE X e t :=
  ⟨fun pins s σ H Q I q => let ⟨_, d, q'⟩ := h σ H Q q; d.run pins s σ H Q I q'⟩
theorem PT.by {X : Cx} {e : Expr} {t : TT} (h : ∀ σ H Q, t σ H Q → ∃ t', PT X e t' ∧ t' σ H Q) : PT X e t :=
  ⟨fun pins s σ H Q I q => let ⟨_, d, q'⟩ := h σ H Q q; d.run pins s σ H Q I q'⟩
theorem PS.by {X : Cx} {e : Stmt} {t : TS} (h : ∀ D σ H, t D σ H → ∃ t', PS X e t' ∧ t' D σ H) : PS X e t :=
  ⟨fun pins s σ H D I q => let ⟨_, d, q'⟩ := h D σ H q; d.run pins s σ H D I q'⟩
theorem PA.by {X : Cx} {e : List Expr} {t : TA} (h : ∀ σ H Q, t σ H Q → ∃ t', PA X e t' ∧ t' σ H Q) : PA X e t :=
  ⟨fun pos pins s σ H Q I q => let ⟨_, d, q'⟩ := h σ H Q q; d.run pos pins s σ H Q I q'⟩
end Dl

/-! DlC: operations on values, by the layer's rules. -/
namespace Dl
open PySem L2
section
variable {p : Px} {Wx : WX} {X : Cx} {α : List Addr} {H : Hp}

theorem RepV.int {i : Int} : RepV p α H (.int i) (.int i) := by simp only [RepV]
theorem RepV.bl {i : Bool} : RepV p α H (.bl i) (.bl i) := by simp only [RepV]
theorem RepV.non : RepV p α H .non .non := by simp only [RepV]
theorem RepV.str {s : List Nat} : RepV p α H (.str s) (.str (strV s)) := by simp only [RepV]
theorem RepV.tup {ws : List W} {a : Addr} {vs : List V} (h : SqT p.K H a vs) (r : RepVs p α H ws vs) : RepV p α H (.tup ws) (.ref a) := by
  simp only [RepV]; exact ⟨a, vs, rfl, h, r⟩
theorem RepV.ref {i : Nat} {a : Addr} (h : α[i]? = some a) : RepV p α H (.ref i) (.ref a) := by simp only [RepV]; exact ⟨a, rfl, h⟩
theorem RepV.int' {i : Int} {v : V} (h : RepV p α H (.int i) v) : v = .int i := by simpa only [RepV] using h
theorem RepV.bl' {i : Bool} {v : V} (h : RepV p α H (.bl i) v) : v = .bl i := by simpa only [RepV] using h
theorem RepV.non' {v : V} (h : RepV p α H .non v) : v = .non := by simpa only [RepV] using h
theorem RepV.str' {s : List Nat} {v : V} (h : RepV p α H (.str s) v) : v = .str (strV s) := by simpa only [RepV] using h
theorem RepV.tup' {ws : List W} {v : V} (h : RepV p α H (.tup ws) v) : ∃ a vs, v = .ref a ∧ SqT p.K H a vs ∧ RepVs p α H ws vs := by simpa only [RepV] using h
theorem RepV.fl' {ws : List W} {v : V} (h : RepV p α H (.fl ws) v) : ∃ a vs, v = .ref a ∧ SqF p.K H a vs ∧ RepVs p α H ws vs := by simpa only [RepV] using h
theorem RepV.fd' {ks : List (List Nat)} {ws : List W} {v : V} (h : RepV p α H (.fd ks ws) v) : ∃ a us vs, v = .ref a ∧ p.kd a ∧ Vals vs us ∧ us.length = ks.length ∧ (∀ z : List Nat, PySem.W.nsIn p.K a (strV z) = some ((ks.zip us).lookup z)) ∧ RepVs p α H ws vs := by simpa only [RepV] using h
theorem RepV.ref' {i : Nat} {v : V} (h : RepV p α H (.ref i) v) : ∃ a, v = .ref a ∧ α[i]? = some a := by simpa only [RepV] using h
/-- a value of a kind -/
theorem lim_line : lim ≤ sizeLine := by decide
theorem strV_len (s : List Nat) : (strV s).length = s.length := by show s.toArray.size = s.length; simp
theorem strV_app (s t : List Nat) : strV s ++ strV t = strV (s ++ t) := by
  show (⟨s.toArray ++ t.toArray⟩ : Str) = ⟨(s ++ t).toArray⟩
  simp

/-- a new tuple -/
theorem post.newT {ws : List W} {g : G} {σ : St} {Q : VK} {q : Addr} {vs : List V} (h : post p Wx (RepV p) (.ok (.tup ws) g) α H σ Q) (s : Sim p α g H) (r : RepVs p α H ws vs) (hq : H q = none) : Q (.ref q) (upd H q (.tup vs)) :=
  h α _ _ (.junk hq) (s.junk hq) (.tup (.inl (.inl upd_same)) (r.mono (.junk hq)))
/-- a new list -/
theorem post.newL {ws : List W} {g : G} {σ : St} {Q : VK} {q : Addr} {vs : List V} (h : post p Wx (RepV p) (.ok (.ref g.length) (g ++ [.lst ws])) α H σ Q) (s : Sim p α g H) (r : RepVs p α H ws vs) (hq : H q = none) : Q (.ref q) (upd H q (.lst vs)) :=
  h (α ++ [q]) _ _ (.new hq) (s.new hq ⟨vs, upd_same, r.mono (.new hq)⟩) (.ref (by rw [← s.len]; simp))

def rB (p : Px) (Wx : WX) (o : Bop) : R2 := fun x y H Q => ∃ α g w u σ, Sim p α g H ∧ RepV p α H w x ∧ RepV p α H u y ∧ post p Wx (RepV p) (o.run w u g) α H σ Q
def Bop.op : Bop → Operator
  | .add => .Add | .sub => .Sub | .mul => .Mult | .fdiv => .FloorDiv | .mod => .Mod | .pow => .Pow | .shl => .LShift | .shr => .RShift | .band => .BitAnd | .bor => .BitOr | .bxor => .BitXor
theorem run_int {o : Bop} {i j : Int} {g : G} {σ : St} {Q : VK} (s : Sim p α g H) (h : post p Wx (RepV p) (o.run (.int i) (.int j) g) α H σ Q) : ∃ k, o.runI i j = some k ∧ Q (.int k) H := by
  simp only [Bop.run] at h
  obtain ⟨w, e, h⟩ := post.of h
  cases q : o.runI i j with
  | none => rw [q] at e; simp at e
  | some k =>
    rw [q] at e; simp at e; subst e
    exact ⟨k, rfl, h.ok s .int⟩
theorem smallI_ok {a b : Int} (h : (smallI a && smallI b) = true) : CMulW a b := by
  simp only [smallI, Bool.and_eq_true, decide_eq_true_eq] at h
  unfold CMulW
  omega
theorem op_int {o : Bop} {pins : List (Addr × Obj)} {s : Shared} {σ : St} {H : Hp} {v u : Value} {Q : VK} {i j k : Int} (I : Inv X pins σ H s) (rx : RelV (.int i) v) (ry : RelV (.int j) u) (e : o.runI i j = some k) (q : Q (.int k) H) :
    wpAny (model X.prog X.w) X.A (binaryOp o.op v u) (EP X pins σ Q) X.xe s := by
  cases o with
  | add => cases e; exact op_add pins s σ H _ _ v u Q I rx ry ⟨i, j, rfl, rfl, q⟩
  | sub => cases e; exact op_sub pins s σ H _ _ v u Q I rx ry ⟨i, j, rfl, rfl, q⟩
  | mul =>
    simp only [Bop.runI] at e
    split at e
    · rename_i c; cases e; exact op_mulW pins s σ H _ _ v u Q I rx ry ⟨i, j, rfl, rfl, smallI_ok c, q⟩
    · cases e
  | fdiv =>
    simp only [Bop.runI] at e
    split at e
    · rename_i c; cases e; exact op_fdivW pins s σ H _ _ v u Q I rx ry ⟨i, j, rfl, rfl, c, q⟩
    · cases e
  | mod =>
    simp only [Bop.runI] at e
    split at e
    · rename_i c; cases e; exact op_mod pins s σ H _ _ v u Q I rx ry ⟨i, j, rfl, rfl, c, q⟩
    · cases e
  | pow =>
    simp only [Bop.runI] at e
    split at e
    · rename_i c; cases e; exact op_pow pins s σ H _ _ v u Q I rx ry ⟨i, j, rfl, rfl, c, q⟩
    · cases e
  | shl =>
    simp only [Bop.runI] at e
    split at e
    · rename_i c; cases e; exact op_shl pins s σ H _ _ v u Q I rx ry ⟨i, j, rfl, rfl, c, q⟩
    · cases e
  | shr =>
    simp only [Bop.runI] at e
    split at e
    · rename_i c; cases e; exact op_shr pins s σ H _ _ v u Q I rx ry ⟨i, j, rfl, rfl, c, q⟩
    · cases e
  | band => cases e; exact op_and pins s σ H _ _ v u Q I rx ry ⟨i, j, rfl, rfl, q⟩
  | bor => cases e; exact op_or pins s σ H _ _ v u Q I rx ry ⟨i, j, rfl, rfl, q⟩
  | bxor => cases e; exact op_xor pins s σ H _ _ v u Q I rx ry ⟨i, j, rfl, rfl, q⟩
theorem Sim.lst {g : G} {i : Nat} {ws : List W} {a : Addr} (s : Sim p α g H) (e : g[i]? = some (.lst ws)) (ea : α[i]? = some a) : ∃ vs, H a = some (.lst vs) ∧ RepVs p α H ws vs := s.ob i _ a e ea
theorem op_bop (hK : p.K = X.K) (o : Bop) : OpR X (binaryOp o.op) (rB p Wx o) := by
  rintro pins s σ H x y v u Q I rx ry ⟨α, g, w1, w2, σ', S, R1, R2, h⟩
  cases w1 with
  | int i =>
    cases w2 with
    | int j =>
      obtain ⟨k, e, q⟩ := run_int S h
      rw [R1.int'] at rx
      rw [R2.int'] at ry
      exact op_int I rx ry e q
    | _ => exact h.elim
  | str a =>
    cases w2 with
    | str b =>
      cases o <;> simp only [Bop.run] at h <;> try exact h.elim
      split at h
      · rename_i c
        rw [R1.str'] at rx
        rw [R2.str'] at ry
        refine op_add_str pins s σ H _ _ v u Q I rx ry ⟨_, _, rfl, rfl, ?_, ?_⟩
        · rw [strV_len, strV_len]; exact Nat.le_trans c lim_line
        · rw [strV_app]; exact h.ok S .str
      · exact h.elim
    | _ => exact h.elim
  | tup a =>
    cases w2 with
    | tup b =>
      cases o <;> simp only [Bop.run] at h <;> try exact h.elim
      split at h
      · rename_i c
        obtain ⟨q1, vs1, rfl, T1, S1⟩ := R1.tup'
        obtain ⟨q2, vs2, rfl, T2, S2⟩ := R2.tup'
        refine op_catA pins s σ H _ _ v u Q I rx ry ⟨q1, q2, vs1, vs2, rfl, rfl, hK ▸ T1, hK ▸ T2, ?_, ?_, ?_, ?_⟩
        · rw [← S1.length, ← S2.length]; exact Nat.le_trans c lim_line
        · rintro rfl
          have : a = [] := List.length_eq_zero_iff.mp S1.length
          subst this
          exact h.ok S (.tup T2 S2)
        · rintro _ rfl
          have : b = [] := List.length_eq_zero_iff.mp S2.length
          subst this
          rw [List.append_nil] at h
          exact h.ok S (.tup T1 S1)
        · intro _ _ q hq
          exact h.newT S (S1.append S2) hq
      · exact h.elim
    | int k =>
      cases o <;> simp only [Bop.run] at h <;> try exact h.elim
      split at h
      · rename_i c
        obtain ⟨q1, vs1, rfl, T1, S1⟩ := R1.tup'
        rw [R2.int'] at ry
        refine op_repA pins s σ H _ _ v u Q I rx ry ⟨q1, k, vs1, rfl, rfl, hK ▸ T1, c.1, c.2.1, by rw [← S1.length]; exact c.2.2, ?_, fun _ q hq => h.newT S (S1.rep k.toNat) hq⟩
        rintro (rfl | rfl)
        · simp only [show (1 : Int).toNat = 1 from rfl, List.replicate_one, List.flatten_cons, List.flatten_nil, List.append_nil] at h
          exact h.ok S (.tup T1 S1)
        · have : a = [] := List.length_eq_zero_iff.mp S1.length
          subst this
          have e : (List.replicate k.toNat ([] : List W)).flatten = [] := by simp
          rw [e] at h
          exact h.ok S (.tup T1 S1)
      · exact h.elim
    | _ => exact h.elim
  | ref i =>
    cases w2 with
    | ref j =>
      obtain ⟨q1, rfl, e1⟩ := R1.ref'
      obtain ⟨q2, rfl, e2⟩ := R2.ref'
      simp only [Bop.run] at h
      split at h
      · rename_i x y f1 f2
        split at h
        · rename_i c
          obtain ⟨vs1, H1, S1⟩ := S.lst f1 e1
          obtain ⟨vs2, H2, S2⟩ := S.lst f2 e2
          refine op_cat pins s σ H _ _ v u Q I rx ry ⟨q1, q2, vs1, vs2, rfl, rfl, H1, H2, ?_, fun q hq => ?_⟩
          · rw [← S1.length, ← S2.length]; exact Nat.le_trans c lim_line
          · exact h.newL S (S1.append S2) hq
        · exact h.elim
      · exact h.elim
    | int k =>
      obtain ⟨q1, rfl, e1⟩ := R1.ref'
      rw [R2.int'] at ry
      simp only [Bop.run] at h
      split at h
      · rename_i x f1
        split at h
        · rename_i c
          obtain ⟨c1, c2, c3⟩ := c
          obtain ⟨vs1, H1, S1⟩ := S.lst f1 e1
          have l1 : (lim : Int) = 1000000 := rfl
          refine op_rep pins s σ H _ _ v u Q I rx ry ⟨q1, k, vs1, rfl, rfl, H1, ?_, ?_, ?_, fun q hq => ?_⟩
          · omega
          · omega
          · rw [← S1.length]; exact Nat.le_trans c3 lim_line
          · exact h.newL S (S1.rep _) hq
        · exact h.elim
      · exact h.elim
    | _ => exact h.elim
  | _ => exact h.elim
end
end Dl

/-! DlD: comparisons, truth, calls of built-ins, by the layer's rules. -/
namespace Dl
open PySem L2
/-! ### data -/
section
variable {p : Px} {Wx : WX} {X : Cx} {α : List Addr} {H : Hp} {g : G}
theorem Sim.lstOf (s : Sim p α g H) {i : Nat} {ws : List W} {a : Addr} (e : Dl.lstOf (.ref i) g = some ws) (ea : α[i]? = some a) : ∃ vs, SqL p.K H a vs ∧ RepVs p α H ws vs := by
  simp only [Dl.lstOf] at e
  split at e
  · rename_i w f
    cases e
    obtain ⟨vs, h, r⟩ := s.ob i _ a f ea
    exact ⟨vs, .of h, r⟩
  · cases e
theorem dp_all (s : Sim p α g H) {n : Nat} (ih : ∀ w v, dataOk g n w = true → RepV p α H w v → Dp p.K H v (pd g n w)) : ∀ {ws : List W} {vs : List V}, ws.all (dataOk g n) = true → RepVs p α H ws vs → DpAll p.K H vs (ws.map (pd g n))
  | [], _, _, r => by rw [r.nil']; exact .nil
  | w :: ws, _, h, r => by
    obtain ⟨v, q, e, a, b⟩ := r.cons'
    simp only [List.all_cons, Bool.and_eq_true] at h
    rw [e]
    exact .cons (ih w v h.1 a) (dp_all s ih h.2 b)
theorem dp_of (s : Sim p α g H) : ∀ (n : Nat) (w : W) (v : V), dataOk g n w = true → RepV p α H w v → Dp p.K H v (pd g n w)
  | 0, _, _, h, _ => by simp [dataOk] at h
  | n + 1, .tup ws, v, h, r => by
    obtain ⟨a, vs, rfl, T, rs⟩ := r.tup'
    simp only [dataOk] at h
    exact .tup T (dp_all s (dp_of s n) h rs)
  | n + 1, .ref i, v, h, r => by
    obtain ⟨a, rfl, ea⟩ := r.ref'
    simp only [dataOk] at h
    split at h
    · rename_i ws f
      obtain ⟨vs, L, rs⟩ := s.lstOf f ea
      simp only [pd, f, Option.getD_some]
      exact .lst L (dp_all s (dp_of s n) h rs)
    · cases h
  | _ + 1, .non, v, _, r => by rw [r.non']; exact .non
  | _ + 1, .bl b, v, _, r => by rw [r.bl']; exact .bl b
  | _ + 1, .int b, v, _, r => by rw [r.int']; exact .int b
  | _ + 1, .str b, v, _, r => by rw [r.str']; exact .str _
  | n + 1, .fl ws, v, h, r => by
    obtain ⟨a, vs, rfl, L, rs⟩ := r.fl'
    simp only [dataOk] at h
    exact .lst L.sq (dp_all s (dp_of s n) h rs)
  | _ + 1, .exn _, v, h, _ => by simp [dataOk] at h
theorem lay_all {n : Nat} (ih : ∀ w, dataOk g n w = true → (pd g n w).canLay0 = true ∧ (pd g n w).depth ≤ n) : ∀ {ws : List W}, ws.all (dataOk g n) = true → PyData.canLayAll0 (ws.map (pd g n)) = true ∧ PyData.depthAll (ws.map (pd g n)) ≤ n
  | [], _ => ⟨rfl, Nat.zero_le _⟩
  | w :: ws, h => by
    simp only [List.all_cons, Bool.and_eq_true] at h
    obtain ⟨a, b⟩ := ih w h.1
    obtain ⟨c, d⟩ := lay_all ih h.2
    simp only [List.map_cons, PyData.canLayAll0, PyData.depthAll, Bool.and_eq_true]
    exact ⟨⟨a, c⟩, Nat.max_le.mpr ⟨b, d⟩⟩
theorem lay_of : ∀ (n : Nat) (w : W), dataOk g n w = true → (pd g n w).canLay0 = true ∧ (pd g n w).depth ≤ n
  | 0, _, h => by simp [dataOk] at h
  | n + 1, .tup ws, h => by
    simp only [dataOk] at h
    obtain ⟨a, b⟩ := lay_all (lay_of n) h
    simp only [pd, PyData.canLay0, PyData.depth]
    exact ⟨a, by omega⟩
  | n + 1, .ref i, h => by
    simp only [dataOk] at h
    split at h
    · rename_i ws f
      obtain ⟨a, b⟩ := lay_all (lay_of n) h
      simp only [pd, f, Option.getD_some, PyData.canLay0, PyData.depth]
      exact ⟨a, by omega⟩
    · cases h
  | _ + 1, .non, _ => ⟨rfl, Nat.zero_le _⟩
  | _ + 1, .bl b, _ => ⟨rfl, Nat.zero_le _⟩
  | _ + 1, .int b, _ => ⟨rfl, Nat.zero_le _⟩
  | _ + 1, .str b, h => by
    simp only [dataOk] at h
    refine ⟨?_, Nat.zero_le _⟩
    simp only [pd, PyData.canLay0, PyData.strOk]
    rw [← Array.all_toList]
    simpa using h
  | n + 1, .fl ws, h => by
    simp only [dataOk] at h
    obtain ⟨a, b⟩ := lay_all (lay_of n) h
    simp only [pd, PyData.canLay0, PyData.depth]
    exact ⟨a, by omega⟩
  | _ + 1, .exn _, h => by simp [dataOk] at h
theorem shaped_of {w : W} (h : dataOk g 60 w = true) : SeqAt.shaped (pd g 60 w) = true := by
  obtain ⟨a, b⟩ := lay_of 60 w h
  unfold SeqAt.shaped
  simp only [Bool.and_eq_true, decide_eq_true_eq]
  exact ⟨a, by omega⟩
theorem strV_beq (s t : List Nat) : (strV s == strV t) = (s == t) := by
  by_cases h : s = t
  · subst h; simp
  · have : ¬ strV s = strV t := fun e => h (by
      have := congrArg (fun z : Str => z.cps.toList) e
      simpa using this)
    rw [beq_eq_false_iff_ne.mpr this, beq_eq_false_iff_ne.mpr h]
theorem strV_inj {s t : List Nat} (e : strV s = strV t) : s = t := by
  have := congrArg (fun z : Str => z.cps.toList) e
  simpa using this
theorem eqv_all {n : Nat} (ih : ∀ x y, dataOk g n x = true → dataOk g n y = true → PyData.eqv (pd g n x) (pd g n y) = eqb g n x y) : ∀ {xs ys : List W}, xs.all (dataOk g n) = true → ys.all (dataOk g n) = true →
    PyData.eqvAll (xs.map (pd g n)) (ys.map (pd g n)) = eqbs (eqb g n) xs ys
  | [], [], _, _ => rfl
  | [], _ :: _, _, _ => rfl
  | _ :: _, [], _, _ => rfl
  | x :: xs, y :: ys, h, k => by
    simp only [List.all_cons, Bool.and_eq_true] at h k
    simp only [List.map_cons, PyData.eqvAll, eqbs]
    rw [ih x y h.1 k.1, eqv_all ih h.2 k.2]
theorem eqv_of : ∀ (n : Nat) (x y : W), dataOk g n x = true → dataOk g n y = true → PyData.eqv (pd g n x) (pd g n y) = eqb g n x y
  | 0, _, _, h, _ => by simp [dataOk] at h
  | n + 1, x, y, h, k => by
    have lists : ∀ {xs ys : List W}, xs.all (dataOk g n) = true → ys.all (dataOk g n) = true → PyData.eqv (.list (xs.map (pd g n))) (.list (ys.map (pd g n))) = eqbs (eqb g n) xs ys := by
      intro xs ys h k
      simp only [PyData.eqv]
      exact eqv_all (eqv_of n) h k
    cases x with
    | tup xs =>
      cases y with
      | tup ys =>
        simp only [dataOk] at h k
        simp only [pd, PyData.eqv, eqb]
        exact eqv_all (eqv_of n) h k
      | exn _ => simp [dataOk] at k
      | _ => simp [pd, PyData.eqv, eqb, lstOf, seqb]
    | ref i =>
      simp only [dataOk] at h
      split at h
      · rename_i ws f
        cases y with
        | ref j =>
          simp only [dataOk] at k
          split at k
          · rename_i us f'
            simp only [pd, f, f', Option.getD_some, eqb]
            exact lists h k
          · cases k
        | fl us =>
          simp only [dataOk] at k
          simp only [pd, f, Option.getD_some, eqb]
          exact lists h k
        | exn _ => simp [dataOk] at k
        | _ => simp [pd, PyData.eqv, eqb, f, lstOf, seqb]
      · cases h
    | fl ws =>
      simp only [dataOk] at h
      cases y with
      | ref j =>
        simp only [dataOk] at k
        split at k
        · rename_i us f'
          simp only [pd, f', Option.getD_some, eqb]
          exact lists h k
        · cases k
      | fl us =>
        simp only [dataOk] at k
        simp only [pd, eqb, lstOf]
        exact lists h k
      | exn _ => simp [dataOk] at k
      | _ => simp [pd, PyData.eqv, eqb, lstOf, seqb]
    | exn _ => simp [dataOk] at h
    | fd _ _ => simp [dataOk] at h
    | non => cases y <;> first | (simp [pd, PyData.eqv, eqb, lstOf, seqb]; done) | simp [dataOk] at k
    | bl a => cases y <;> first | (simp [pd, PyData.eqv, eqb, lstOf, seqb]; done) | simp [dataOk] at k
    | int a => cases y <;> first | (simp [pd, PyData.eqv, eqb, lstOf, seqb]; done) | simp [dataOk] at k
    | str a => cases y <;> first | (simp [pd, PyData.eqv, eqb, lstOf, seqb]; done) | (simp only [pd, PyData.eqv, eqb, lstOf, seqb, strV_beq]; done) | simp [dataOk] at k
theorem scal_of {x y : W} {v u : V} (h : scal2 x y = true) (rx : RepV p α H x v) (ry : RepV p α H y u) : scal v u = true ∧ decide (v = u) = seqb x y := by
  cases x <;> cases y <;> first | (simp [scal2] at h; done) | skip
  all_goals (simp only [RepV] at rx ry; subst rx ry)
  all_goals refine ⟨rfl, ?_⟩
  all_goals first
    | rfl
    | (simp only [seqb]; rw [Bool.beq_eq_decide_eq]; congr 1; apply propext; constructor; (intro e; cases e; rfl); (intro e; rw [e]))
    | (simp only [seqb]; rw [Bool.beq_eq_decide_eq]; congr 1; apply propext; constructor; (intro e; injection e with e; exact strV_inj e); (intro e; rw [e]))
    | (simp [seqb]; done)
end

/-! ### comparisons by values -/
def rC (p : Px) (Wx : WX) (o : Cop) : R2 := fun x y H Q => ∃ α g w u σ, Sim p α g H ∧ RepV p α H w x ∧ RepV p α H u y ∧ post p Wx (RepV p) (R.of ((o.run w u g).map W.bl) g) α H σ Q
def Cop.op : Cop → CmpOp
  | .eq => .Eq | .ne => .NotEq | .lt => .Lt | .le => .LtE | .gt => .Gt | .ge => .GtE | .is_ => .Is | .isnot => .IsNot | .in_ => .In | .notin => .NotIn
section
variable {p : Px} {Wx : WX} {X : Cx} {α : List Addr} {H : Hp}
theorem c_post {o : Cop} {w u : W} {g : G} {σ : St} {Q : VK} (S : Sim p α g H) (h : post p Wx (RepV p) (R.of ((o.run w u g).map W.bl) g) α H σ Q) : ∃ k, o.run w u g = some k ∧ Q (.bl k) H := by
  obtain ⟨w', e, h⟩ := post.of h
  cases q : o.run w u g with
  | none => rw [q] at e; simp at e
  | some k =>
    rw [q] at e; simp at e; subst e
    exact ⟨k, rfl, h.ok S .bl⟩
theorem Sim.dict {g : G} {i : Nat} {kvs : List (W × W)} {a : Addr} (s : Sim p α g H) (e : g[i]? = some (.dct kvs)) (ea : α[i]? = some a) :
    ∃ kvs', H a = some (.dK kvs') ∧ RepKV p α H kvs kvs' := s.ob i _ a e ea
theorem Sim.fz {g : G} {i : Nat} {kvs : List (W × W)} {a : Addr} (s : Sim p α g H) (e : g[i]? = some (.fz kvs)) (ea : α[i]? = some a) :
    ∃ o kvs', H a = some (.frz o (.dK kvs')) ∧ RepKV p α H kvs kvs' := s.ob i _ a e ea
theorem Sim.dictR {g : G} {i : Nat} {o : Ob} {kvs : List (W × W)} {a : Addr} (s : Sim p α g H) (e : g[i]? = some o) (ho : o = .dct kvs ∨ o = .fz kvs) (ea : α[i]? = some a) :
    ∃ kvs', Rd H a (.dK kvs') ∧ RepKV p α H kvs kvs' := by
  rcases ho with rfl | rfl
  · obtain ⟨k, h, r⟩ := s.dict e ea; exact ⟨k, .inl h, r⟩
  · obtain ⟨o, k, h, r⟩ := s.fz e ea; exact ⟨k, .inr ⟨o, h⟩, r⟩
theorem Sim.kvs {g : G} {i : Nat} {kvs : List (W × W)} {a : Addr} (s : Sim p α g H) (e : kvsOf (.ref i) g = some kvs) (ea : α[i]? = some a) :
    ∃ kvs', Rd H a (.dK kvs') ∧ RepKV p α H kvs kvs' := by
  simp only [kvsOf] at e
  split at e
  · rename_i f; cases e; exact s.dictR f (.inl rfl) ea
  · rename_i f; cases e; exact s.dictR f (.inr rfl) ea
  · cases e
theorem keyK_rep {w : W} {k : Key} {v : V} (e : keyK w = some k) (r : RepV p α H w v) : v = kV k := by
  cases w <;> simp [keyK] at e
  · subst e; exact r.int'
  · subst e; exact r.str'
theorem keyK_inj {a b : W} {k : Key} (e : keyK a = some k) (f : keyK b = some k) : a = b := by
  cases a <;> simp [keyK] at e
  · cases b <;> simp [keyK] at f
    · rw [← e] at f; injection f with f; rw [f]
    · rw [← e] at f; cases f
  · cases b <;> simp [keyK] at f
    · rw [← e] at f; cases f
    · rw [← e] at f; injection f with f; rw [strV_inj f]
mutual
theorem weq_refl : ∀ w : W, weq w w = true
  | .non => rfl
  | .bl _ => by simp [weq]
  | .int _ => by simp [weq]
  | .str _ => by simp [weq]
  | .tup ws => by simp only [weq]; exact weqs_refl ws
  | .ref _ => by simp [weq]
  | .exn _ => by simp [weq]
  | .fl ws => by simp only [weq]; exact weqs_refl ws
  | .fd ks ws => by simp only [weq, Bool.and_eq_true]; exact ⟨by simp, weqs_refl ws⟩
theorem weqs_refl : ∀ ws : List W, weqs ws ws = true
  | [] => rfl
  | w :: r => by simp only [weqs, Bool.and_eq_true]; exact ⟨weq_refl w, weqs_refl r⟩
end
mutual
theorem weq_eq : ∀ {a b : W}, weq a b = true → a = b
  | .non, b, h => by cases b <;> simp [weq] at h; rfl
  | .bl _, b, h => by cases b <;> simp [weq] at h; rw [h]
  | .int _, b, h => by cases b <;> simp [weq] at h; rw [h]
  | .str _, b, h => by cases b <;> simp [weq] at h; rw [h]
  | .tup ws, b, h => by
    cases b with
    | tup us => simp only [weq] at h; rw [weqs_eq h]
    | _ => simp [weq] at h
  | .ref _, b, h => by cases b <;> simp [weq] at h; rw [h]
  | .exn _, b, h => by cases b <;> simp [weq] at h; rw [h]
  | .fl ws, b, h => by
    cases b with
    | fl us => simp only [weq] at h; rw [weqs_eq h]
    | _ => simp [weq] at h
  | .fd ks ws, b, h => by
    cases b with
    | fd ls us =>
      simp only [weq, Bool.and_eq_true] at h
      rw [eq_of_beq h.1, weqs_eq h.2]
    | _ => simp [weq] at h
theorem weqs_eq : ∀ {a b : List W}, weqs a b = true → a = b
  | [], b, h => by cases b <;> simp [weqs] at h; rfl
  | w :: r, b, h => by
    cases b with
    | nil => simp [weqs] at h
    | cons u q =>
      simp only [weqs, Bool.and_eq_true] at h
      rw [weq_eq h.1, weqs_eq h.2]
end
theorem weq_iff {a b : W} : weq a b = true ↔ a = b := ⟨weq_eq, fun e => by rw [e]; exact weq_refl b⟩
theorem weq_ne {a b : W} (h : a ≠ b) : weq a b = false := by
  cases e : weq a b with
  | true => exact absurd (weq_eq e) h
  | false => rfl
/-! ### dicts -/
theorem RepKV.get {k : W} {κ : Key} (hk : keyK k = some κ) : ∀ {kvs : List (W × W)} {kvs' : List (Key × V)}, RepKV p α H kvs kvs' →
    (getD kvs k = none ∧ valV kvs' κ = none) ∨ ∃ w v, getD kvs k = some w ∧ valV kvs' κ = some v ∧ RepV p α H w v
  | [], _, h => by
    have : _ = [] := h
    subst this
    exact .inl ⟨rfl, rfl⟩
  | (a, w) :: r, _, ⟨k', v, q, e, ek, rv, rr⟩ => by
    subst e
    by_cases ha : a = k
    · subst ha
      have : k' = κ := Option.some.inj (ek.symm.trans hk)
      refine .inr ⟨w, v, by simp [getD, weq_refl], valV_pos this, rv⟩
    · have n : ¬ k' = κ := fun z => ha (keyK_inj (z ▸ ek) hk)
      simp only [getD, weq_ne ha]
      rw [valV_neg (p := (k', v)) n]
      exact RepKV.get hk rr
theorem fits_key {kvs : List (W × W)} {k : W} (h : fits kvs k = true) : ∃ κ, keyK k = some κ := by
  cases k <;> simp [fits] at h
  · exact ⟨_, rfl⟩
  · exact ⟨_, rfl⟩
theorem RepKV.length : ∀ {kvs : List (W × W)} {kvs' : List (Key × V)}, RepKV p α H kvs kvs' → kvs.length = kvs'.length
  | [], _, h => by
    have : _ = [] := h
    subst this; rfl
  | (a, w) :: r, _, ⟨k', v, q, e, ek, rv, rr⟩ => by subst e; simp [RepKV.length rr]
theorem RepKV.any {k : W} {κ : Key} (hk : keyK k = some κ) : ∀ {kvs : List (W × W)} {kvs' : List (Key × V)}, RepKV p α H kvs kvs' → (kvs.any fun kv => weq kv.1 k) = kvs'.any fun kv => decide (kv.1 = κ)
  | [], _, h => by
    have : _ = [] := h
    subst this; rfl
  | (a, w) :: r, _, ⟨k', v, q, e, ek, rv, rr⟩ => by
    subst e
    simp only [List.any_cons]
    rw [RepKV.any hk rr]
    congr 1
    by_cases ha : a = k
    · subst ha
      rw [weq_refl, decide_eq_true (Option.some.inj (ek.symm.trans hk))]
    · have n : ¬ k' = κ := fun z => ha (keyK_inj (z ▸ ek) hk)
      rw [weq_ne ha, decide_eq_false n]
theorem RepKV.map {k w : W} {κ : Key} {v : V} (hk : keyK k = some κ) (rw_ : RepV p α H w v) : ∀ {kvs : List (W × W)} {kvs' : List (Key × V)}, RepKV p α H kvs kvs' →
    RepKV p α H (kvs.map fun kv => if weq kv.1 k then (kv.1, w) else kv) (kvs'.map fun kv => if kv.1 = κ then (kv.1, v) else kv)
  | [], _, h => by
    have : _ = [] := h
    subst this; exact h
  | (a, w') :: r, _, ⟨k', v', q, e, ek, rv, rr⟩ => by
    subst e
    simp only [List.map_cons]
    by_cases ha : a = k
    · subst ha
      rw [if_pos (weq_refl a), if_pos (Option.some.inj (ek.symm.trans hk))]
      exact ⟨k', v, _, rfl, ek, rw_, RepKV.map hk rw_ rr⟩
    · have n : ¬ k' = κ := fun z => ha (keyK_inj (z ▸ ek) hk)
      rw [if_neg (by rw [weq_ne ha]; decide), if_neg n]
      exact ⟨k', v', _, rfl, ek, rv, RepKV.map hk rw_ rr⟩
theorem RepKV.snoc {k w : W} {κ : Key} {v : V} (hk : keyK k = some κ) (rw_ : RepV p α H w v) : ∀ {kvs : List (W × W)} {kvs' : List (Key × V)}, RepKV p α H kvs kvs' → RepKV p α H (kvs ++ [(k, w)]) (kvs' ++ [(κ, v)])
  | [], _, h => by
    have : _ = [] := h
    subst this; exact ⟨κ, v, [], rfl, hk, rw_, rfl⟩
  | (a, w') :: r, _, ⟨k', v', q, e, ek, rv, rr⟩ => by
    subst e
    exact ⟨k', v', _, rfl, ek, rv, RepKV.snoc hk rw_ rr⟩
theorem RepKV.put {k w : W} {κ : Key} {v : V} (hk : keyK k = some κ) (rw_ : RepV p α H w v) {kvs : List (W × W)} {kvs' : List (Key × V)} (r : RepKV p α H kvs kvs') : RepKV p α H (putD kvs k w) (putK kvs' κ v) := by
  unfold putK putD
  rw [RepKV.any hk r]
  split
  · exact RepKV.map hk rw_ r
  · exact RepKV.snoc hk rw_ r
/-! ### the comparisons -/
theorem seq_flat {w : W} (h : flatW w = true) {v : V} (r : RepV p α H w v) : flatV v = true := by
  cases w <;> simp [flatW] at h <;> simp only [RepV] at r <;> subst r <;> rfl
theorem seqb_eqV {w u : W} {v y : V} (h : flatW w = true) (k : flatW u = true) (r : RepV p α H w v) (q : RepV p α H u y) : eqV v y = seqb w u := by
  cases w <;> simp [flatW] at h <;> cases u <;> simp [flatW] at k <;> simp only [RepV] at r q <;> subst r q <;> simp only [eqV, seqb, strV_beq]
theorem all_flat : ∀ {ws : List W} {vs : List V}, ws.all flatW = true → RepVs p α H ws vs → vs.all flatV = true
  | [], _, _, r => by rw [r.nil']; rfl
  | w :: ws, _, h, r => by
    obtain ⟨v, q, e, a, b⟩ := r.cons'
    simp only [List.all_cons, Bool.and_eq_true] at h
    rw [e]
    simp only [List.all_cons, Bool.and_eq_true]
    exact ⟨seq_flat h.1 a, all_flat h.2 b⟩
theorem any_seqb {x : W} {y : V} (hx : flatW x = true) (rx : RepV p α H x y) : ∀ {ws : List W} {vs : List V}, ws.all flatW = true → RepVs p α H ws vs → inV y vs = ws.any fun w => seqb w x
  | [], _, _, r => by rw [r.nil']; rfl
  | w :: ws, _, h, r => by
    obtain ⟨v, q, e, a, b⟩ := r.cons'
    simp only [List.all_cons, Bool.and_eq_true] at h
    have ih := any_seqb hx rx h.2 b
    rw [e]
    unfold inV at ih ⊢
    simp only [List.any_cons]
    rw [ih, seqb_eqV h.1 hx a rx]
/-- the written dicts are what they are -/
def KdOk (p : Px) (X : Cx) : Prop := ∀ a, p.kd a → ∃ es n, KDict X.K X.w a es n
theorem fd_get {α : List Addr} {H : Hp} {z : List Nat} : ∀ {ks : List (List Nat)} {ws : List W} {vs : List V} {us : List Value}, Vals vs us → us.length = ks.length → RepVs p α H ws vs →
    (getFd ks ws z = none ∧ (ks.zip us).lookup z = none) ∨ ∃ w v u, getFd ks ws z = some w ∧ (ks.zip us).lookup z = some u ∧ RelV v u ∧ RepV p α H w v
  | [], _, _, _, _, _, _ => .inl ⟨by simp [getFd], by simp⟩
  | k :: ks, [], _, _, r, hl, R => by
    have := R.nil'
    subst this
    cases r
    simp at hl
  | k :: ks, w :: ws, _, _, r, hl, R => by
    obtain ⟨v, q, rfl, a, b⟩ := R.cons'
    cases r with
    | cons r1 r2 =>
      rename_i u us
      by_cases hz : z = k
      · subst hz
        exact .inr ⟨w, v, u, by simp [getFd, List.lookup_cons], by simp [List.lookup_cons], r1, a⟩
      · have hb : (z == k) = false := beq_eq_false_iff_ne.mpr hz
        have := fd_get (z := z) r2 (by simpa using hl) b
        simpa [getFd, List.lookup_cons, hb] using this
theorem op_in (hK : p.K = X.K) (hkd : KdOk p X) (hu : X.A.units + 64 < cLine) {pins : List (Addr × Obj)} {s : Shared} {σ : St} {x y : V} {v u : Value} {Q : VK} {g : G} {w1 w2 : W} {k : Bool} (neg : Bool) (I : Inv X pins σ H s) (rx : RelV x v) (ry : RelV y u)
    (S : Sim p α g H) (R1 : RepV p α H w1 x) (R2 : RepV p α H w2 y) (e : inW w1 w2 g = some k) (q : Q (.bl (if neg then !k else k)) H) :
    wpAny (model X.prog X.w) X.A (compareOp (if neg then .NotIn else .In) v u) (EP X pins σ Q) X.xe s := by
  have seqcase : ∀ {ws : List W} {a : Addr} {vs : List V}, y = .ref a → (SqL X.K H a vs ∨ SqT X.K H a vs) → RepVs p α H ws vs → (if (flatW w1 && ws.all flatW) = true then some (ws.any fun w => seqb w w1) else none) = some k →
      wpAny (model X.prog X.w) X.A (compareOp (if neg then .NotIn else .In) v u) (EP X pins σ Q) X.xe s := by
    intro ws a vs ey L r e
    subst ey
    split at e
    · rename_i c
      simp only [Bool.and_eq_true] at c
      cases e
      have e2 := any_seqb c.1 R1 c.2 r
      cases neg with
      | false => exact op_in_seq pins s σ H _ _ v u Q I rx ry ⟨a, vs, rfl, L, seq_flat c.1 R1, all_flat c.2 r, by rw [e2]; exact q⟩
      | true => exact op_notIn_seq pins s σ H _ _ v u Q I rx ry ⟨a, vs, rfl, L, seq_flat c.1 R1, all_flat c.2 r, by rw [e2]; exact q⟩
    · cases e
  cases w2 with
  | tup ws =>
    obtain ⟨a, vs, ey, T, r⟩ := R2.tup'
    exact seqcase ey (.inr (hK ▸ T)) r e
  | ref i =>
    obtain ⟨a, ey, ea⟩ := R2.ref'
    have dcase : ∀ {kvs : List (W × W)}, (∃ kvs', Rd H a (.dK kvs') ∧ RepKV p α H kvs kvs') → (if fits kvs w1 = true then some (getD kvs w1).isSome else none) = some k →
        wpAny (model X.prog X.w) X.A (compareOp (if neg then .NotIn else .In) v u) (EP X pins σ Q) X.xe s := by
      rintro kvs ⟨kvs', hd, r⟩ e
      subst ey
      split at e
      · rename_i c
        cases e
        obtain ⟨κ, hκ⟩ := fits_key c
        have hy := keyK_rep hκ R1
        subst hy
        have g0 : DGet H a (kV κ) (valV kvs' κ) := .inl ⟨kvs', κ, hd, rfl, rfl⟩
        have e3 : (getD kvs w1).isSome = (valV kvs' κ).isSome := by
          rcases RepKV.get hκ r with ⟨a1, a2⟩ | ⟨_, _, a1, a2, _⟩ <;> rw [a1, a2] <;> rfl
        rw [e3] at q
        cases neg with
        | false =>
          cases ry
          show wpAny _ _ (compareOp .In v (.ref a)) _ _ _
          exact d_in (A := X.A) (Q := EP X pins σ Q) (E := X.xe) (by omega) I g0 rx fun s' I' => ⟨.bl _, H, I', rfl, q⟩
        | true =>
          cases ry
          show wpAny _ _ (compareOp .NotIn v (.ref a)) _ _ _
          exact d_notIn (A := X.A) (Q := EP X pins σ Q) (E := X.xe) (by omega) I g0 rx fun s' I' => ⟨.bl _, H, I', rfl, q⟩
      · cases e
    simp only [inW] at e
    split at e
    · rename_i ws f
      obtain ⟨vs, h1, r⟩ := S.lst f ea
      exact seqcase ey (.inl (.of h1)) r e
    · rename_i kvs f
      exact dcase (S.dictR f (.inl rfl) ea) e
    · rename_i kvs f
      exact dcase (S.dictR f (.inr rfl) ea) e
    · cases e
  | str z =>
    simp only [inW] at e
    split at e
    · rename_i c
      cases e
      have hx := R1.str'
      have hy := R2.str'
      subst hx hy
      have e3 : z.contains c = decide (c ∈ (strV z).cps.toList) := by simp
      rw [e3] at q
      cases neg with
      | false => exact op_in_sign pins s σ H _ _ v u Q I rx ry ⟨c, strV z, rfl, rfl, q⟩
      | true => exact op_notIn_sign pins s σ H _ _ v u Q I rx ry ⟨c, strV z, rfl, rfl, q⟩
    · cases e
  | fd ks ws =>
    simp only [inW] at e
    split at e
    · rename_i z
      cases e
      obtain ⟨d, us, vs, ey, hd, rv, hl, hz, rs⟩ := R2.fd'
      obtain ⟨es, n, D⟩ := hkd d hd
      have hx := R1.str'
      subst hx ey
      have hq : PySem.W.nsIn X.K d (strV z) = some ((ks.zip us).lookup z) := hK ▸ hz z
      have e2 : (getFd ks ws z).isSome = ((ks.zip us).lookup z).isSome := by
        rcases fd_get (z := z) rv hl rs with ⟨a1, a2⟩ | ⟨_, _, _, a1, a2, _, _⟩ <;> rw [a1, a2] <;> rfl
      rw [e2] at q
      cases neg with
      | false => exact op_in_kd D pins s σ H _ _ v u Q I rx ry ⟨strV z, _, rfl, rfl, hq, q⟩
      | true => exact op_notIn_kd D pins s σ H _ _ v u Q I rx ry ⟨strV z, _, rfl, rfl, hq, q⟩
    · cases e
  | _ => simp [inW] at e
theorem op_eqW (hK : p.K = X.K) (hu : X.A.units + 64 < cLine) {pins : List (Addr × Obj)} {s : Shared} {σ : St} {x y : V} {v u : Value} {Q : VK} {g : G} {w1 w2 : W} {k : Bool} (neg : Bool) (I : Inv X pins σ H s) (rx : RelV x v) (ry : RelV y u)
    (S : Sim p α g H) (R1 : RepV p α H w1 x) (R2 : RepV p α H w2 y) (e : eqW w1 w2 g = some k) (q : Q (.bl (if neg then !k else k)) H) :
    wpAny (model X.prog X.w) X.A (compareOp (if neg then .NotEq else .Eq) v u) (EP X pins σ Q) X.xe s := by
  unfold eqW at e
  split at e
  · rename_i c
    cases e
    obtain ⟨c1, c2⟩ := scal_of c R1 R2
    rw [← c2] at q
    cases neg with
    | false => exact op_eq pins s σ H _ _ v u Q I rx ry ⟨c1, q⟩
    | true => exact op_ne pins s σ H _ _ v u Q I rx ry ⟨c1, q⟩
  · split at e
    · rename_i c
      simp only [Bool.and_eq_true] at c
      cases e
      rw [← eqv_of 60 w1 w2 c.1 c.2] at q
      cases neg with
      | false => exact op_eqD hu pins s σ H _ _ v u Q I rx ry ⟨_, _, hK ▸ dp_of S 60 w1 x c.1 R1, hK ▸ dp_of S 60 w2 y c.2 R2, shaped_of c.1, shaped_of c.2, q⟩
      | true => exact op_neD hu pins s σ H _ _ v u Q I rx ry ⟨_, _, hK ▸ dp_of S 60 w1 x c.1 R1, hK ▸ dp_of S 60 w2 y c.2 R2, shaped_of c.1, shaped_of c.2, q⟩
    · cases e
theorem op_cop (hK : p.K = X.K) (hkd : KdOk p X) (hu : X.A.units + 64 < cLine) (o : Cop) : OpR X (compareOp o.op) (rC p Wx o) := by
  rintro pins s σ H x y v u Q I rx ry ⟨α, g, w1, w2, σ', S, R1, R2, h⟩
  obtain ⟨k, e, q⟩ := c_post S h
  cases o with
  | eq => exact op_eqW hK hu false I rx ry S R1 R2 e q
  | ne =>
    simp only [Cop.run, Option.map_eq_some_iff] at e
    obtain ⟨k', e, rfl⟩ := e
    exact op_eqW hK hu true I rx ry S R1 R2 e q
  | in_ => exact op_in hK hkd hu false I rx ry S R1 R2 e q
  | notin =>
    simp only [Cop.run, Option.map_eq_some_iff] at e
    obtain ⟨k', e, rfl⟩ := e
    exact op_in hK hkd hu true I rx ry S R1 R2 e q
  | lt =>
    cases w1 <;> simp [Cop.run] at e <;> cases w2 <;> simp at e
    rw [R1.int'] at rx; rw [R2.int'] at ry
    exact op_lt pins s σ H _ _ v u Q I rx ry ⟨_, _, rfl, rfl, by show Q (.bl (decide (_ < _))) H; rw [e]; exact q⟩
  | le =>
    cases w1 <;> simp [Cop.run] at e <;> cases w2 <;> simp at e
    rw [R1.int'] at rx; rw [R2.int'] at ry
    exact op_le pins s σ H _ _ v u Q I rx ry ⟨_, _, rfl, rfl, by show Q (.bl (decide (_ ≤ _))) H; rw [e]; exact q⟩
  | gt =>
    cases w1 <;> simp [Cop.run] at e <;> cases w2 <;> simp at e
    rw [R1.int'] at rx; rw [R2.int'] at ry
    exact op_gt pins s σ H _ _ v u Q I rx ry ⟨_, _, rfl, rfl, by show Q (.bl (decide (_ < _))) H; rw [e]; exact q⟩
  | ge =>
    cases w1 <;> simp [Cop.run] at e <;> cases w2 <;> simp at e
    rw [R1.int'] at rx; rw [R2.int'] at ry
    exact op_ge pins s σ H _ _ v u Q I rx ry ⟨_, _, rfl, rfl, by show Q (.bl (decide (_ ≤ _))) H; rw [e]; exact q⟩
  | is_ =>
    cases w2 <;> simp [Cop.run] at e
    have hy := R2.non'
    subst hy
    refine op_isN pins s σ H _ _ v u Q I rx ry ⟨rfl, ?_⟩
    have : decide (x = .non) = k := by
      rw [← e]
      cases w1 <;> simp only [RepV] at R1 <;> first | (subst R1; rfl) | (obtain ⟨a, _, rfl, _⟩ := R1; rfl) | (obtain ⟨a, _, rfl, _, _⟩ := R1; rfl) | (obtain ⟨a, rfl, _⟩ := R1; rfl) | (obtain ⟨a, rfl⟩ := R1; rfl) | (obtain ⟨a, us, vs, rfl, _⟩ := R1; rfl)
    rw [this]; exact q
  | isnot =>
    cases w2 <;> simp [Cop.run] at e
    have hy := R2.non'
    subst hy
    refine op_notN pins s σ H _ _ v u Q I rx ry ⟨rfl, ?_⟩
    have : (!decide (x = .non)) = k := by
      rw [← e]
      cases w1 <;> simp only [RepV] at R1 <;> first | (subst R1; rfl) | (obtain ⟨a, _, rfl, _⟩ := R1; rfl) | (obtain ⟨a, _, rfl, _, _⟩ := R1; rfl) | (obtain ⟨a, rfl, _⟩ := R1; rfl) | (obtain ⟨a, rfl⟩ := R1; rfl) | (obtain ⟨a, us, vs, rfl, _⟩ := R1; rfl)
    rw [this]; exact q
/-! ### truth -/
def rT (p : Px) (Wx : WX) : V → Hp → (Bool → Hp → Prop) → Prop := fun x H Q => ∃ α g w σ, Sim p α g H ∧ RepV p α H w x ∧ post p Wx (fun _ _ b c => c = b) (R.of (truthW w g) g) α H σ Q
def TB : List Addr → Hp → Bool → Bool → Prop := fun _ _ b c => c = b
def szOk (w : W) : Prop := True
theorem tru_of (hK : p.K = X.K) {g : G} {w : W} {x : V} {k : Bool} (S : Sim p α g H) (R1 : RepV p α H w x) (e : truthW w g = some k) : TruV X.K x H k := by
  cases w with
  | non => rw [R1.non']; simp [truthW] at e; exact e.symm ▸ rfl
  | bl b => rw [R1.bl']; simp [truthW] at e; exact e ▸ rfl
  | int i => rw [R1.int']; simp [truthW] at e; show k = (i != 0); rw [← e]
  | str s =>
    rw [R1.str']
    simp [truthW] at e
    obtain ⟨e0, e⟩ := e
    refine ⟨by rw [strV_len]; exact Nat.le_trans e0 lim_line, ?_⟩
    rw [strV_len]
    cases s with
    | nil => cases k <;> simp at e ⊢
    | cons a r => cases k <;> simp at e ⊢ <;> omega
  | tup ws =>
    obtain ⟨a, vs, rfl, T, r⟩ := R1.tup'
    simp [truthW] at e
    refine .inr (.inl ⟨vs, hK ▸ T, ?_⟩)
    have := r.length
    cases ws <;> cases vs <;> simp at this ⊢ <;> cases k <;> simp at e ⊢
  | ref i =>
    obtain ⟨a, rfl, ea⟩ := R1.ref'
    simp only [truthW] at e
    have fin : ∀ {ws : List W} {vs : List V}, RepVs p α H ws vs → (!ws.isEmpty) = !vs.isEmpty := by
      intro ws vs r
      have := r.length
      cases ws <;> cases vs <;> simp at this ⊢
    split at e
    · rename_i ws f
      obtain ⟨vs, h1, r⟩ := S.lst f ea
      cases e
      exact .inl ⟨vs, .of h1, fin r⟩
    · rename_i kvs f
      obtain ⟨kvs', h1, r⟩ := S.dict f ea
      cases e
      refine .inr (.inr ⟨kvs', h1, ?_⟩)
      have := r.length
      cases kvs <;> cases kvs' <;> simp at this ⊢
    · cases e
  | fl ws =>
    obtain ⟨a, vs, rfl, L, r⟩ := R1.fl'
    simp [truthW] at e
    refine .inl ⟨vs, hK ▸ L.sq, ?_⟩
    have := r.length
    cases ws <;> cases vs <;> simp at this ⊢ <;> cases k <;> simp at e ⊢
  | exn _ => simp [truthW] at e
  | fd _ _ => simp [truthW] at e
end
end Dl

/-! DlE: the rules of expressions, each for the interpreter's reading. -/
namespace Dl
open PySem L2
theorem sizeLine_lim {n : Nat} (h : n ≤ lim) : n ≤ sizeLine := Nat.le_trans h lim_line
section
variable {p : Px} {Wx : WX} {X : Cx} {T : Tbl} {call : CallF}
/-- the reading of an expression -/
abbrev tV (p : Px) (Wx : WX) (T : Tbl) (call : CallF) (e : E) : TE := tE p Wx (ev T call e)
abbrev tQ (p : Px) (Wx : WX) (T : Tbl) (call : CallF) (e : E) : TT := tB p Wx (tst T call e)
abbrev tL (p : Px) (Wx : WX) (T : Tbl) (call : CallF) (e : EL) : TA := tA p Wx (evl T call e)

theorem e_cst {w : W} {e : Expr} {t : TE} (h : PE X e t) (hw : ∀ α H Q, (∀ v, RepV p α H w v → Q v H) → ∀ σ, t σ H Q) : PE X e (tV p Wx T call (.cst w)) :=
  PE.by fun σ H Q ⟨α, ρ, g, S, E, q⟩ => ⟨t, h, hw α H Q (fun v r => by simp only [ev] at q; exact post.ok q S r) σ⟩
theorem e_int {i : Int} {j : Nat} {pos : Pos} : PE X (.Constant (.int i) j pos) (tV p Wx T call (.cst (.int i))) := e_cst pe_int fun α H Q q σ => q _ .int
theorem e_bl {i : Bool} {j : Nat} {pos : Pos} : PE X (.Constant (.bool i) j pos) (tV p Wx T call (.cst (.bl i))) := e_cst pe_bl fun α H Q q σ => q _ .bl
theorem e_non {j : Nat} {pos : Pos} : PE X (.Constant .none j pos) (tV p Wx T call (.cst .non)) := e_cst pe_non fun α H Q q σ => q _ .non
theorem e_str {s : Str} {j : Nat} {pos : Pos} : PE X (.Constant (.str s) j pos) (tV p Wx T call (.cst (.str s.cps.toList))) := e_cst pe_str fun α H Q q σ => q _ (by simp only [RepV])
theorem e_var {i : Nat} {x : Str} {pos : Pos} (h : PE X (.Name x pos) (tVar i)) : PE X (.Name x pos) (tV p Wx T call (.var i)) := PE.by fun σ H Q ⟨α, ρ, g, S, E, q⟩ => by
  refine ⟨_, h, ?_⟩
  simp only [ev] at q
  split at q
  · rename_i w e
    obtain ⟨v, ev, r⟩ := E.at_ i w e
    exact ⟨v, ev, post.ok q S r⟩
  · exact q.elim
/-- a list of expressions -/
theorem a_nil : PA X [] (tL p Wx T call .nil) := PA.by fun σ H Q ⟨α, ρ, g, S, E, q⟩ => ⟨_, pa_nil, by simp only [evl] at q; exact post.ok q S RepVs.nil⟩
/-- the two parts of a row -/
theorem two {β γ δ ε ζ η : Type} {Rp : List Addr → Hp → β → γ → Prop} {Rq : List Addr → Hp → δ → ε → Prop} {f : Env → G → R δ} {k : Env → δ → G → R β} {σ : St} {H : Hp} {Q : γ → Hp → Prop}
    (h : tG p Wx Rp (fun ρ g => (f ρ g).bind (k ρ)) σ H Q) : tG p Wx Rq f σ H fun x H1 => ∃ α ρ g w, Sim p α g H1 ∧ SimSt p α H1 ρ σ ∧ Rq α H1 w x ∧ post p Wx Rp (k ρ w g) α H1 σ Q := by
  obtain ⟨α, ρ, g, S, E, q⟩ := h
  exact ⟨α, ρ, g, S, E, (post.bind (Rq := Rq) q).imp fun x H1 _ ⟨α1, g1, w, K1, S1, r, q1⟩ => ⟨α1, ρ, g1, w, S1, E.mono K1, r, q1⟩⟩
theorem a_cons {e : Expr} {es : List Expr} {e' : E} {es' : EL} (h1 : PE X e (tV p Wx T call e')) (h2 : PA X es (tL p Wx T call es')) (hs : starEach (e :: es) X.env = (false, eval e X.env) :: starEach es X.env) : PA X (e :: es) (tL p Wx T call (.cons e' es')) :=
  PA.by fun σ H Q ⟨α, ρ, g, S, E, q⟩ => by
    refine ⟨_, pa_cons h1 h2 hs, α, ρ, g, S, E, ?_⟩
    simp only [evl] at q
    refine (post.bind (Rq := RepV p) q).imp fun x H1 _ ⟨α1, g1, w, K1, S1, r, q1⟩ => ⟨α1, ρ, g1, S1, E.mono K1, ?_⟩
    refine (post.bind (Rq := RepVs p) q1).imp fun xs H2 k2 ⟨α2, g2, ws, K2, S2, rs, q2⟩ => ?_
    exact post.ok q2 S2 (.cons (r.mono K2) rs)
theorem evl_len {es : EL} : True := trivial
theorem e_tup {es : List Expr} {es' : EL} {k : Nat} {pos : Pos} (h : PA X es (tL p Wx T call es')) (hl : es.length ≤ lim) (hn : ∀ {ρ g ws g'}, evl T call es' ρ g = .ok ws g' → ws.length = es.length) : PE X (.Tuple es k pos) (tV p Wx T call (.tup es')) :=
  PE.by fun σ H Q ⟨α, ρ, g, S, E, q⟩ => by
    refine ⟨_, pe_tup h, α, ρ, g, S, E, ?_⟩
    simp only [ev] at q
    cases hr : evl T call es' ρ g with
    | ok ws g1 =>
      rw [hr] at q
      have l := hn hr
      intro α1 H1 vs K1 S1 rs
      refine ⟨by rw [← rs.length, l]; exact sizeLine_lim hl, fun q1 hq => ?_⟩
      have q' : post p Wx (RepV p) (.ok (.tup ws) g1) α1 H1 σ Q := post.mono q K1
      exact q'.newT S1 rs hq
    | exc c g1 => rw [hr] at q; exact q
    | err => rw [hr] at q; exact q
theorem e_lst {es : List Expr} {es' : EL} {pos : Pos} (h : PA X es (tL p Wx T call es')) (hl : es.length ≤ lim) (hn : ∀ {ρ g ws g'}, evl T call es' ρ g = .ok ws g' → ws.length = es.length) : PE X (.List es pos) (tV p Wx T call (.lst es')) :=
  PE.by fun σ H Q ⟨α, ρ, g, S, E, q⟩ => by
    refine ⟨_, pe_lst h, α, ρ, g, S, E, ?_⟩
    simp only [ev] at q
    cases hr : evl T call es' ρ g with
    | ok ws g1 =>
      rw [hr] at q
      have l := hn hr
      intro α1 H1 vs K1 S1 rs
      refine ⟨by rw [← rs.length, l]; exact sizeLine_lim hl, fun q1 hq => ?_⟩
      have q' : post p Wx (RepV p) (.ok (.ref g1.length) (g1 ++ [.lst ws])) α1 H1 σ Q := post.mono q K1
      exact q'.newL S1 rs hq
    | exc c g1 => rw [hr] at q; exact q
    | err => rw [hr] at q; exact q
theorem e_bop {o : Bop} {a b : Expr} {a' b' : E} {pos : Pos} (hK : p.K = X.K) (h1 : PE X a (tV p Wx T call a')) (h2 : PE X b (tV p Wx T call b')) : PE X (.BinOp a o.op b pos) (tV p Wx T call (.bop o a' b')) :=
  PE.by fun σ H Q ⟨α, ρ, g, S, E, q⟩ => by
    refine ⟨_, pe_op (op_bop (Wx := Wx) hK o) h1 h2, α, ρ, g, S, E, ?_⟩
    simp only [ev] at q
    refine (post.bind (Rq := RepV p) q).imp fun x H1 _ ⟨α1, g1, w, K1, S1, r, q1⟩ => ⟨α1, ρ, g1, S1, E.mono K1, ?_⟩
    exact (post.bind (Rq := RepV p) q1).imp fun y H2 _ ⟨α2, g2, u, K2, S2, r2, q2⟩ => ⟨α2, g2, w, u, σ, S2, r.mono K2, r2, q2⟩
theorem e_neg {a : Expr} {a' : E} {pos : Pos} (h1 : PE X a (tV p Wx T call a')) : PE X (.UnaryOp .USub a pos) (tV p Wx T call (.neg a')) :=
  PE.by fun σ H Q ⟨α, ρ, g, S, E, q⟩ => by
    refine ⟨_, pe_un un_neg h1, α, ρ, g, S, E, ?_⟩
    simp only [ev] at q
    refine (post.bind (Rq := RepV p) q).imp fun x H1 _ ⟨α1, g1, w, K1, S1, r, q1⟩ => ?_
    split at q1
    · rename_i i; exact ⟨i, r.int', post.ok q1 S1 .int⟩
    · exact q1.elim
theorem e_not {a : Expr} {a' : E} {pos : Pos} (h1 : PE X a (tV p Wx T call a')) : PE X (.UnaryOp .Not a pos) (tV p Wx T call (.not a')) :=
  PE.by fun σ H Q ⟨α, ρ, g, S, E, q⟩ => by
    refine ⟨_, pe_not h1, α, ρ, g, S, E, ?_⟩
    simp only [ev] at q
    refine (post.bind (Rq := RepV p) q).imp fun x H1 _ ⟨α1, g1, w, K1, S1, r, q1⟩ => ?_
    split at q1
    · rename_i i; exact ⟨i, r.bl', post.ok q1 S1 .bl⟩
    · exact q1.elim
theorem e_cmp {o : Cop} {a b : Expr} {a' b' : E} {pos : Pos} (hK : p.K = X.K) (hkd : KdOk p X) (hu : X.A.units + 64 < cLine) (h1 : PE X a (tV p Wx T call a')) (h2 : PE X b (tV p Wx T call b')) (hm : behindInMarks o.op b = false) : PE X (.Compare a [o.op] [b] pos) (tV p Wx T call (.cmp o a' b')) :=
  PE.by fun σ H Q ⟨α, ρ, g, S, E, q⟩ => by
    refine ⟨_, pe_cmpR (op_cop (Wx := Wx) hK hkd hu o) h1 h2 hm, α, ρ, g, S, E, ?_⟩
    simp only [ev] at q
    refine (post.bind (Rq := RepV p) q).imp fun x H1 _ ⟨α1, g1, w, K1, S1, r, q1⟩ => ⟨α1, ρ, g1, S1, E.mono K1, ?_⟩
    exact (post.bind (Rq := RepV p) q1).imp fun y H2 _ ⟨α2, g2, u, K2, S2, r2, q2⟩ => ⟨α2, g2, w, u, σ, S2, r.mono K2, r2, q2⟩
/-- the comparison's reading, then k -/
theorem chain_go {o o' : Cop} {a b c : E} {σ : St} {H : Hp} {Q : VK} (h : tV p Wx T call (.chain o o' a b c) σ H Q) : tChain (rC p Wx o) (rC p Wx o') (tV p Wx T call a) (tV p Wx T call b) (tV p Wx T call c) σ H Q := by
  obtain ⟨α, ρ, g, S, E, q⟩ := h
  refine ⟨α, ρ, g, S, E, ?_⟩
  simp only [ev] at q
  refine (post.bind (Rq := RepV p) q).imp fun x H1 _ ⟨α1, g1, w, K1, S1, r, q1⟩ => ⟨α1, ρ, g1, S1, E.mono K1, ?_⟩
  refine (post.bind (Rq := RepV p) q1).imp fun y H2 _ ⟨α2, g2, u, K2, S2, r2, q2⟩ => ?_
  refine ⟨α2, g2, w, u, σ, S2, r.mono K2, r2, ?_⟩
  cases hr : o.run w u g2 with
  | none => rw [hr] at q2; exact q2
  | some k =>
    rw [hr] at q2
    intro α3 H3 z K3 S3 rz
    refine ⟨k, rz.bl', ?_⟩
    have q3 := post.mono q2 K3
    cases k with
    | false => exact post.ok q3 S3 .bl
    | true =>
      refine ⟨α3, ρ, g2, S3, (E.mono (K1.trans K2)).mono K3, ?_⟩
      exact (post.bind (Rq := RepV p) q3).imp fun z' H4 _ ⟨α4, g4, u4, K4, S4, r4, q4⟩ => ⟨α4, g4, u, u4, σ, S4, (r2.mono K3).mono K4, r4, q4⟩
theorem e_chain {o o' : Cop} {a b c : Expr} {a' b' c' : E} {pos : Pos} (hK : p.K = X.K) (hkd : KdOk p X) (hu : X.A.units + 64 < cLine) (h1 : PE X a (tV p Wx T call a')) (h2 : PE X b (tV p Wx T call b')) (h3 : PE X c (tV p Wx T call c')) (hm : lastMarks [o.op, o'.op] [b, c] = false) :
    PE X (.Compare a [o.op, o'.op] [b, c] pos) (tV p Wx T call (.chain o o' a' b' c')) :=
  PE.by fun σ H Q h => ⟨_, pe_chain (op_cop (Wx := Wx) hK hkd hu o) (op_cop (Wx := Wx) hK hkd hu o') h1 h2 h3 hm, chain_go h⟩
theorem e_and {a b : Expr} {r : List Expr} {a' b' : E} {pos : Pos} (h1 : PE X a (tV p Wx T call a')) (h2 : PE X (.BoolOp .And (b :: r) pos) (tV p Wx T call b')) : PE X (.BoolOp .And (a :: b :: r) pos) (tV p Wx T call (.and a' b')) :=
  PE.by fun σ H Q ⟨α, ρ, g, S, E, q⟩ => by
    refine ⟨_, pe_and h1 h2, α, ρ, g, S, E, ?_⟩
    simp only [ev] at q
    refine (post.bind (Rq := RepV p) q).imp fun x H1 _ ⟨α1, g1, w, K1, S1, r, q1⟩ => ?_
    split at q1
    · exact ⟨true, r.bl', by rw [if_pos rfl]; exact ⟨α1, ρ, g1, S1, E.mono K1, q1⟩⟩
    · exact ⟨false, r.bl', by rw [if_neg (by decide)]; exact post.ok q1 S1 .bl⟩
    · exact q1.elim
theorem e_or {a b : Expr} {r : List Expr} {a' b' : E} {pos : Pos} (h1 : PE X a (tV p Wx T call a')) (h2 : PE X (.BoolOp .Or (b :: r) pos) (tV p Wx T call b')) : PE X (.BoolOp .Or (a :: b :: r) pos) (tV p Wx T call (.or a' b')) :=
  PE.by fun σ H Q ⟨α, ρ, g, S, E, q⟩ => by
    refine ⟨_, pe_or h1 h2, α, ρ, g, S, E, ?_⟩
    simp only [ev] at q
    refine (post.bind (Rq := RepV p) q).imp fun x H1 _ ⟨α1, g1, w, K1, S1, r, q1⟩ => ?_
    split at q1
    · exact ⟨true, r.bl', by rw [if_pos rfl]; exact post.ok q1 S1 .bl⟩
    · exact ⟨false, r.bl', by rw [if_neg (by decide)]; exact ⟨α1, ρ, g1, S1, E.mono K1, q1⟩⟩
    · exact q1.elim
theorem e_ife {c a b : Expr} {c' a' b' : E} {pos : Pos} (h0 : PT X c (tQ p Wx T call c')) (h1 : PE X a (tV p Wx T call a')) (h2 : PE X b (tV p Wx T call b')) : PE X (.IfExp c a b pos) (tV p Wx T call (.ife c' a' b')) :=
  PE.by fun σ H Q ⟨α, ρ, g, S, E, q⟩ => by
    refine ⟨_, pe_ifExp h0 h1 h2, α, ρ, g, S, E, ?_⟩
    simp only [ev] at q
    refine (post.bind (Rq := TB) q).imp fun x H1 _ ⟨α1, g1, w, K1, S1, r, q1⟩ => ?_
    have r : x = w := r
    subst r
    cases x with
    | true => rw [if_pos rfl]; exact ⟨α1, ρ, g1, S1, E.mono K1, q1⟩
    | false => rw [if_neg (by decide)]; exact ⟨α1, ρ, g1, S1, E.mono K1, q1⟩
/-! ### tests -/
theorem t_and {a b : Expr} {r : List Expr} {a' b' : E} {pos : Pos} (h1 : PT X a (tQ p Wx T call a')) (h2 : PW X (.BoolOp .And (b :: r) pos) (tQ p Wx T call b')) : PW X (.BoolOp .And (a :: b :: r) pos) (tQ p Wx T call (.and a' b')) :=
  ⟨fun wh pins s σ H Q I ⟨α, ρ, g, S, E, q⟩ => by
    refine (pw_and h1 h2).run wh pins s σ H Q I ⟨α, ρ, g, S, E, ?_⟩
    simp only [tst] at q
    refine (post.bind (Rq := TB) q).imp fun x H1 _ ⟨α1, g1, w, K1, S1, r, q1⟩ => ?_
    have r : x = w := r
    subst r
    cases x with
    | true => rw [if_pos rfl]; exact ⟨α1, ρ, g1, S1, E.mono K1, q1⟩
    | false => rw [if_neg (by decide)]; exact post.ok q1 S1 rfl⟩
theorem t_or {a b : Expr} {r : List Expr} {a' b' : E} {pos : Pos} (h1 : PT X a (tQ p Wx T call a')) (h2 : PW X (.BoolOp .Or (b :: r) pos) (tQ p Wx T call b')) : PW X (.BoolOp .Or (a :: b :: r) pos) (tQ p Wx T call (.or a' b')) :=
  ⟨fun wh pins s σ H Q I ⟨α, ρ, g, S, E, q⟩ => by
    refine (pw_or h1 h2).run wh pins s σ H Q I ⟨α, ρ, g, S, E, ?_⟩
    simp only [tst] at q
    refine (post.bind (Rq := TB) q).imp fun x H1 _ ⟨α1, g1, w, K1, S1, r, q1⟩ => ?_
    have r : x = w := r
    subst r
    cases x with
    | true => rw [if_pos rfl]; exact post.ok q1 S1 rfl
    | false => rw [if_neg (by decide)]; exact ⟨α1, ρ, g1, S1, E.mono K1, q1⟩⟩
theorem t_not {a : Expr} {a' : E} {pos : Pos} (h1 : PT X a (tQ p Wx T call a')) : PT X (.UnaryOp .Not a pos) (tQ p Wx T call (.not a')) :=
  PT.by fun σ H Q ⟨α, ρ, g, S, E, q⟩ => by
    refine ⟨_, pt_not h1, α, ρ, g, S, E, ?_⟩
    simp only [tst] at q
    refine (post.bind (Rq := TB) q).imp fun x H1 _ ⟨α1, g1, w, K1, S1, r, q1⟩ => ?_
    have r : x = w := r
    subst r
    exact post.ok q1 S1 rfl
/-- a value's truth, for what is no and, or, not -/
def plainT : E → Bool
  | .and _ _ | .or _ _ | .not _ => false
  | _ => true
theorem tst_plain {e : E} (h : plainT e = true) (ρ : Env) (g : G) : tst T call e ρ g = (ev T call e ρ g).bind fun x g1 => R.of (truthW x g1) g1 := by
  cases e <;> first | (simp only [tst]; done) | (simp [plainT] at h; done)
theorem t_truth {a : Expr} {a' : E} (hK : p.K = X.K) (hp : plainT a' = true) (h1 : PE X a (tV p Wx T call a')) (he : ∀ whole, isTrue a X.env whole = (do let v ← whole; standAt a.pos; holding [v] (truthy v))) : PT X a (tQ p Wx T call a') :=
  PT.by fun σ H Q ⟨α, ρ, g, S, E, q⟩ => by
    refine ⟨_, pt_truth h1 he, α, ρ, g, S, E, ?_⟩
    rw [tst_plain hp] at q
    refine (post.bind (Rq := RepV p) q).imp fun x H1 _ ⟨α1, g1, w, K1, S1, r, q1⟩ => ?_
    obtain ⟨k, e, q2⟩ := post.of q1
    exact ⟨k, tru_of hK S1 r e, post.ok q2 S1 rfl⟩
/-- a comparison's value is a bool -/
theorem t_cmp {o : Cop} {a b : Expr} {a' b' : E} {pos : Pos} (hK : p.K = X.K) (hkd : KdOk p X) (hu : X.A.units + 64 < cLine) (h1 : PE X a (tV p Wx T call a')) (h2 : PE X b (tV p Wx T call b')) (hm : behindInMarks o.op b = false) : PT X (.Compare a [o.op] [b] pos) (tQ p Wx T call (.cmp o a' b')) :=
  PT.by fun σ H Q ⟨α, ρ, g, S, E, q⟩ => by
    refine ⟨_, pt_cmpR (op_cop (Wx := Wx) hK hkd hu o) h1 h2 hm, α, ρ, g, S, E, ?_⟩
    rw [tst_plain rfl] at q
    simp only [ev] at q
    cases e1 : ev T call a' ρ g with
    | err => rw [e1] at q; exact q
    | exc c g1 => rw [e1] at q; exact q
    | ok w g1 =>
      rw [e1] at q
      intro α1 H1 x K1 S1 r
      refine ⟨α1, ρ, g1, S1, E.mono K1, ?_⟩
      have q := post.mono q K1
      simp only [R.bind] at q
      cases e2 : ev T call b' ρ g1 with
      | err => rw [e2] at q; exact q
      | exc c g1 => rw [e2] at q; exact q
      | ok u g2 =>
        rw [e2] at q
        intro α2 H2 y K2 S2 r2
        refine ⟨α2, g2, w, u, σ, S2, r.mono K2, r2, ?_⟩
        have q := post.mono q K2
        simp only [R.bind] at q
        cases e3 : o.run w u g2 with
        | none => rw [e3] at q; exact q
        | some k =>
          rw [e3] at q
          intro α3 H3 z K3 S3 r3
          exact ⟨k, r3.bl', post.ok (post.mono q K3) S3 rfl⟩
theorem t_chain {o o' : Cop} {a b c : Expr} {a' b' c' : E} {pos : Pos} (hK : p.K = X.K) (hkd : KdOk p X) (hu : X.A.units + 64 < cLine) (h1 : PE X a (tV p Wx T call a')) (h2 : PE X b (tV p Wx T call b')) (h3 : PE X c (tV p Wx T call c')) (hm : lastMarks [o.op, o'.op] [b, c] = false) :
    PT X (.Compare a [o.op, o'.op] [b, c] pos) (tQ p Wx T call (.chain o o' a' b' c')) :=
  PT.by fun σ H Q ⟨α, ρ, g, S, E, q⟩ => by
    refine ⟨_, pt_chain (op_cop (Wx := Wx) hK hkd hu o) (op_cop (Wx := Wx) hK hkd hu o') h1 h2 h3 hm, ?_⟩
    refine chain_go (p := p) (Wx := Wx) (T := T) (call := call) (Q := fun x H' => ∃ k, x = .bl k ∧ Q k H') ⟨α, ρ, g, S, E, ?_⟩
    rw [tst_plain rfl] at q
    have bl : ∀ w g', ev T call (.chain o o' a' b' c') ρ g = .ok w g' → ∃ k, w = .bl k := by
      intro w g' h
      simp only [ev] at h
      cases e1 : ev T call a' ρ g <;> rw [e1] at h <;> simp only [R.bind] at h <;> try cases h
      rename_i w1 g1
      cases e2 : ev T call b' ρ g1 <;> rw [e2] at h <;> simp only at h <;> try cases h
      rename_i w2 g2
      cases e3 : o.run w1 w2 g2 <;> rw [e3] at h <;> simp only [R.of] at h <;> try cases h
      rename_i k
      cases k with
      | false => simp only at h; cases h; exact ⟨_, rfl⟩
      | true =>
        simp only at h
        cases e4 : ev T call c' ρ g2 <;> rw [e4] at h <;> simp only at h <;> try cases h
        rename_i w4 g4
        cases e5 : o'.run w2 w4 g4 <;> rw [e5] at h <;> simp only [Option.map] at h <;> try cases h
        exact ⟨_, rfl⟩
    cases e1 : ev T call (.chain o o' a' b' c') ρ g with
    | err => rw [e1] at q; exact q
    | exc c g1 => rw [e1] at q; exact q
    | ok w g1 =>
      obtain ⟨k, rfl⟩ := bl w g1 e1
      rw [e1] at q
      intro α1 H1 x K1 S1 r
      exact ⟨k, r.bl', post.ok (post.mono q K1) S1 rfl⟩
end
end Dl

/-! DlF: subscripts, slices, fields, calls, built-ins. -/
namespace Dl
open PySem L2
section
variable {p : Px} {Wx : WX} {X : Cx} {T : Tbl} {call : CallF}
/-! ### subscripts -/
theorem atI_rep {α : List Addr} {H : Hp} {ws : List W} {vs : List V} {i : Int} {w : W} (r : RepVs p α H ws vs) (e : atW ws i = some w) : ∃ v, atI vs i = some v ∧ RepV p α H w v := by
  unfold atW at e
  have hl := r.length
  cases h : ixW ws.length i with
  | none => rw [h] at e; cases e
  | some j =>
    rw [h] at e
    obtain ⟨v, e1, e2⟩ := r.get e
    refine ⟨v, ?_, e2⟩
    unfold atI
    have : ixN vs.length i = some j := by rw [← hl]; exact h
    rw [this]
    exact e1
theorem e_idx {a b : Expr} {a' b' : E} {pos : Pos} (hK : p.K = X.K) (hkd : KdOk p X) (hu : X.A.units + 64 < cLine) (h1 : PE X a (tV p Wx T call a')) (h2 : PE X b (tV p Wx T call b')) (hs : PlainIx b) : PE X (.Subscript a b pos) (tV p Wx T call (.idx a' b')) :=
  PE.by fun σ H Q ⟨α, ρ, g, S, E, q⟩ => by
    simp only [ev] at q
    have key : ∀ t, (PE X (.Subscript a b pos) (tOp t (tV p Wx T call a') (tV p Wx T call b'))) → (∀ x y H2 α2 g2 w u, Sim p α2 g2 H2 → RepV p α2 H2 w x → RepV p α2 H2 u y → post p Wx (RepV p) (match w, u with
        | .tup ws, .int i => R.of (atW ws i) g2
        | .fl ws, .int i => R.of (atW ws i) g2
        | .str s, .int i => if s.length ≤ lim then R.of ((atW s i).map fun c => W.str [c]) g2 else .err
        | .fd ks us, .str z => R.of (getFd ks us z) g2
        | .ref p, y => match g2[p]?, y with
          | some (.lst ws), .int i => R.of (atW ws i) g2
          | some (.dct kvs), k => if fits kvs k then R.of (getD kvs k) g2 else .err
          | some (.fz kvs), k => if fits kvs k then R.of (getD kvs k) g2 else .err
          | _, _ => .err
        | _, _ => .err) α2 H2 σ Q → t x y H2 Q) → ∃ t', PE X (.Subscript a b pos) t' ∧ t' σ H Q := by
      intro t d hd
      refine ⟨_, d, α, ρ, g, S, E, ?_⟩
      refine (post.bind (Rq := RepV p) q).imp fun x H1 _ ⟨α1, g1, w, K1, S1, r, q1⟩ => ⟨α1, ρ, g1, S1, E.mono K1, ?_⟩
      exact (post.bind (Rq := RepV p) q1).imp fun y H2 _ ⟨α2, g2, u, K2, S2, r2, q2⟩ => hd x y H2 α2 g2 w u S2 (r.mono K2) r2 q2
    refine key (fun x y H Q => (rIx X.K x y H Q ∨ (∃ a v, x = .ref a ∧ DGet H a y (some v) ∧ Q v H)) ∨ rIxD X.K X.w x y H Q) ?_ ?_
    · refine pe_ix (IxR.or (IxR.or ix_seq ?_) ix_kdict) h1 h2 hs
      intro value slice pins s σ H x y v u Q I rx ry ⟨a, w, ex, d, q⟩ hsl
      subst ex
      cases rx
      exact PyProof.Rows.tail_any (dict_typeIs I d) PySem.F.slot_dict_getitem.lookup (d_getItem (by omega) I d ry fun w' s' I' r' => ⟨_, _, I', r', q⟩) hsl
    · intro x y H2 α2 g2 w u S2 r r2 q2
      split at q2
      · rename_i ws i
        obtain ⟨w, e, q3⟩ := post.of q2
        obtain ⟨a, vs, rfl, TT, rs⟩ := r.tup'
        obtain ⟨v, e1, e2⟩ := atI_rep rs e
        exact .inl (.inl (.inr (.inl ⟨a, vs, i, v, rfl, r2.int', hK ▸ TT, e1, post.ok q3 S2 e2⟩)))
      · rename_i ws i
        obtain ⟨w, e, q3⟩ := post.of q2
        obtain ⟨a, vs, rfl, L, rs⟩ := r.fl'
        obtain ⟨v, e1, e2⟩ := atI_rep rs e
        exact .inl (.inl (.inl ⟨a, vs, i, v, rfl, r2.int', hK ▸ L.sq, e1, post.ok q3 S2 e2⟩))
      · rename_i s i
        split at q2
        · rename_i hc
          obtain ⟨w, e, q3⟩ := post.of q2
          cases h : atW s i with
          | none => rw [h] at e; cases e
          | some c =>
            rw [h] at e
            cases e
            refine .inl (.inl (.inr (.inr ⟨strV s, i, c, r.str', r2.int', ?_, ?_, post.ok q3 S2 .str⟩)))
            · rw [strV_len]; exact sizeLine_lim hc
            · have h' : (ixN s.length i).bind (fun j => s[j]?) = some c := h
              unfold atI
              simpa using h'
        · exact q2.elim
      · rename_i ks us z
        obtain ⟨w, e, q3⟩ := post.of q2
        obtain ⟨d, vl, vs, rfl, hd, rv, hl, hz, rs⟩ := r.fd'
        obtain ⟨es, n, D⟩ := hkd d hd
        rcases fd_get (z := z) rv hl rs with ⟨a1, a2⟩ | ⟨w', v', u', a1, a2, a3, a4⟩
        · rw [a1] at e; cases e
        · rw [a1] at e; cases e
          refine .inr ⟨d, strV z, v', rfl, r2.str', ⟨es, n, u', D.at_, D.lit, ?_, a3⟩, post.ok q3 S2 a4⟩
          have := hz z
          rw [a2] at this
          exact hK ▸ this
      · rename_i i y'
        obtain ⟨a, rfl, ea⟩ := r.ref'
        split at q2
        · rename_i ws i f
          obtain ⟨w, e, q3⟩ := post.of q2
          obtain ⟨vs, h1, rs⟩ := S2.lst f ea
          obtain ⟨v, e1, e2⟩ := atI_rep rs e
          exact .inl (.inl (.inl ⟨a, vs, i, v, rfl, r2.int', .of h1, e1, post.ok q3 S2 e2⟩))
        · rename_i kvs f
          split at q2
          · rename_i c
            obtain ⟨w, e, q3⟩ := post.of q2
            obtain ⟨κ, hκ⟩ := fits_key c
            obtain ⟨kvs', hd, rr⟩ := S2.dict f ea
            have hy := keyK_rep hκ r2
            rcases RepKV.get hκ rr with ⟨a1, a2⟩ | ⟨w', v', a1, a2, a3⟩
            · rw [a1] at e; cases e
            · rw [a1] at e; cases e
              refine .inl (.inr ⟨a, v', rfl, ?_, post.ok q3 S2 a3⟩)
              rw [hy, ← a2]
              exact .k hd
          · exact q2.elim
        · rename_i kvs f
          split at q2
          · rename_i c
            obtain ⟨w, e, q3⟩ := post.of q2
            obtain ⟨κ, hκ⟩ := fits_key c
            obtain ⟨kvs', hd, rr⟩ := S2.dictR f (.inr rfl) ea
            have hy := keyK_rep hκ r2
            rcases RepKV.get hκ rr with ⟨a1, a2⟩ | ⟨w', v', a1, a2, a3⟩
            · rw [a1] at e; cases e
            · rw [a1] at e; cases e
              refine .inl (.inr ⟨a, v', rfl, ?_, post.ok q3 S2 a3⟩)
              rw [hy, ← a2]
              exact .inl ⟨kvs', κ, hd, rfl, rfl⟩
          · exact q2.elim
        · exact q2.elim
      · exact q2.elim
/-! ### slices -/
theorem cut_rep {α : List Addr} {H : Hp} {ws : List W} {vs : List V} (r : RepVs p α H ws vs) (lo hi : Option Int) : RepVs p α H (cutW ws lo hi) (cutV vs lo hi) := by
  unfold cutW cutV
  rw [r.length]
  exact (r.drop _).take _
theorem cut_str (s : List Nat) (lo hi : Option Int) : L2.cutS (strV s) lo hi = strV (cutW s lo hi) := by
  unfold L2.cutS cutW
  simp only [strV_len]
  rfl
/-- a slice of a list, a tuple, a text -/
def rSl (p : Px) (Wx : WX) : V → Option Int → Option Int → Hp → VK → Prop := fun x lo hi H Q => ∃ α g w σ, Sim p α g H ∧ RepV p α H w x ∧ post p Wx (RepV p) (match w with
    | .tup ws => .ok (.tup (cutW ws lo hi)) g
    | .str s => if s.length ≤ lim then .ok (.str (cutW s lo hi)) g else .err
    | .ref q => match g[q]? with
      | some (.lst ws) => .ok (.ref g.length) (g ++ [.lst (cutW ws lo hi)])
      | _ => .err
    | _ => .err) α H σ Q
theorem cut_all {ws : List W} {lo hi : Option Int} (h : cutIx ws.length 0 lo = 0 ∧ cutIx ws.length ws.length hi = ws.length) : cutW ws lo hi = ws := by
  unfold cutW
  rw [h.1, h.2]
  simp
theorem sl_any (hK : p.K = X.K) : SlR X (rSl p Wx) := by
  rintro pins s σ H x v vl vu lo hi sl Q I rx hs pl pu ⟨α, g, w, σ', S, R1, q⟩
  cases w with
  | tup ws =>
    obtain ⟨a, vs, rfl, TT, rs⟩ := R1.tup'
    refine sl_tupA pins s σ H _ v vl vu lo hi sl Q I rx hs pl pu ⟨a, vs, rfl, hK ▸ TT, fun hw => ?_, fun hw q1 hq => ?_⟩
    · have hl := rs.length
      have : cutW ws lo hi = ws := cut_all (by rw [hl]; exact hw)
      simp only [this] at q
      exact post.ok q S R1
    · exact post.newT q S (cut_rep rs lo hi) hq
  | str z =>
    simp only at q
    split at q
    · rename_i hc
      rw [R1.str'] at rx
      refine sl_str pins s σ H _ v vl vu lo hi sl Q I rx hs pl pu ⟨strV z, rfl, by rw [strV_len]; exact sizeLine_lim hc, ?_⟩
      rw [cut_str]
      exact post.ok q S .str
    · exact q.elim
  | ref i =>
    obtain ⟨a, rfl, ea⟩ := R1.ref'
    simp only at q
    split at q
    · rename_i ws f
      obtain ⟨vs, h1, rs⟩ := S.lst f ea
      exact sl_list pins s σ H _ v vl vu lo hi sl Q I rx hs pl pu ⟨a, vs, rfl, .of h1, fun q1 hq => post.newL q S (cut_rep rs lo hi) hq⟩
    · exact q.elim
  | _ => exact q.elim
theorem e_slo {a lo : Expr} {a' lo' : E} {pos p2 : Pos} (hK : p.K = X.K) (h1 : PE X a (tV p Wx T call a')) (h2 : PE X lo (tV p Wx T call lo')) : PE X (.Subscript a (.Slice (some lo) none none p2) pos) (tV p Wx T call (.slo a' lo')) :=
  PE.by fun σ H Q ⟨α, ρ, g, S, E, q⟩ => by
    refine ⟨_, pe_slice (sl_any (Wx := Wx) hK) h1 (po_some h2) po_none, α, ρ, g, S, E, ?_⟩
    simp only [ev] at q
    refine (post.bind (Rq := RepV p) q).imp fun x H1 _ ⟨α1, g1, w, K1, S1, r, q1⟩ => ⟨α1, ρ, g1, S1, E.mono K1, ?_⟩
    refine (post.bind (Rq := RepV p) q1).imp fun y H2 _ ⟨α2, g2, u, K2, S2, r2, q2⟩ => ?_
    cases u with
    | int i =>
      refine ⟨i, r2.int', α2, g2, w, σ, S2, r.mono K2, ?_⟩
      cases w <;> first | exact q2 | (simp only at q2; exact q2.elim) | skip
      all_goals (simp only at q2 ⊢; split at q2 <;> first | exact q2 | exact q2.elim | (rename_i hh; rw [hh]; exact q2) | skip)
      all_goals (rename_i hh; simp only [hh]; exact q2)
    | _ => cases w <;> exact q2.elim
theorem e_shi {a hi : Expr} {a' hi' : E} {pos p2 : Pos} (hK : p.K = X.K) (h1 : PE X a (tV p Wx T call a')) (h2 : PE X hi (tV p Wx T call hi')) : PE X (.Subscript a (.Slice none (some hi) none p2) pos) (tV p Wx T call (.shi a' hi')) :=
  PE.by fun σ H Q ⟨α, ρ, g, S, E, q⟩ => by
    refine ⟨_, pe_slice (sl_any (Wx := Wx) hK) h1 po_none (po_some h2), α, ρ, g, S, E, ?_⟩
    simp only [ev] at q
    refine (post.bind (Rq := RepV p) q).imp fun x H1 _ ⟨α1, g1, w, K1, S1, r, q1⟩ => ⟨α1, ρ, g1, S1, E.mono K1, ?_⟩
    refine (post.bind (Rq := RepV p) q1).imp fun y H2 _ ⟨α2, g2, u, K2, S2, r2, q2⟩ => ?_
    cases u with
    | int i =>
      refine ⟨i, r2.int', α2, g2, w, σ, S2, r.mono K2, ?_⟩
      cases w <;> first | exact q2 | (simp only at q2; exact q2.elim) | skip
      all_goals (simp only at q2 ⊢; split at q2 <;> first | exact q2 | exact q2.elim | (rename_i hh; rw [hh]; exact q2) | skip)
      all_goals (rename_i hh; simp only [hh]; exact q2)
    | _ => cases w <;> exact q2.elim
theorem e_slh {a lo hi : Expr} {a' lo' hi' : E} {pos p2 : Pos} (hK : p.K = X.K) (h1 : PE X a (tV p Wx T call a')) (h2 : PE X lo (tV p Wx T call lo')) (h3 : PE X hi (tV p Wx T call hi')) : PE X (.Subscript a (.Slice (some lo) (some hi) none p2) pos) (tV p Wx T call (.slh a' lo' hi')) :=
  PE.by fun σ H Q ⟨α, ρ, g, S, E, q⟩ => by
    refine ⟨_, pe_slice (sl_any (Wx := Wx) hK) h1 (po_some h2) (po_some h3), α, ρ, g, S, E, ?_⟩
    simp only [ev] at q
    refine (post.bind (Rq := RepV p) q).imp fun x H1 _ ⟨α1, g1, w, K1, S1, r, q1⟩ => ⟨α1, ρ, g1, S1, E.mono K1, ?_⟩
    refine (post.bind (Rq := RepV p) q1).imp fun y H2 _ ⟨α2, g2, u, K2, S2, r2, q2⟩ => ?_
    cases u with
    | int i =>
      refine ⟨i, r2.int', α2, ρ, g2, S2, (E.mono K1).mono K2, ?_⟩
      refine (post.bind (Rq := RepV p) q2).imp fun z H3 _ ⟨α3, g3, u3, K3, S3, r3, q3⟩ => ?_
      cases u3 with
      | int j =>
        refine ⟨j, r3.int', α3, g3, w, σ, S3, (r.mono K2).mono K3, ?_⟩
        cases w <;> first | exact q3 | (simp only at q3; exact q3.elim) | skip
        all_goals (simp only at q3 ⊢; split at q3 <;> first | exact q3 | exact q3.elim | (rename_i hh; rw [hh]; exact q3) | skip)
        all_goals (rename_i hh; simp only [hh]; exact q3)
      | _ => cases w <;> exact q3.elim
    | _ => exact q2.elim
theorem e_rev {a : Expr} {a' : E} {k : Nat} {p1 p2 p3 pos : Pos} (hK : p.K = X.K) (h1 : PE X a (tV p Wx T call a')) : PE X (.Subscript a (.Slice none none (some (.UnaryOp .USub (.Constant (.int 1) k p1) p2)) p3) pos) (tV p Wx T call (.rev a')) :=
  PE.by fun σ H Q ⟨α, ρ, g, S, E, q⟩ => by
    refine ⟨_, pe_revL h1, α, ρ, g, S, E, ?_⟩
    simp only [ev] at q
    refine (post.bind (Rq := RepV p) q).imp fun x H1 _ ⟨α1, g1, w, K1, S1, r, q1⟩ => ?_
    split at q1
    · rename_i i
      obtain ⟨b, rfl, eb⟩ := r.ref'
      split at q1
      · rename_i ws f
        obtain ⟨vs, h1, rs⟩ := S1.lst f eb
        exact ⟨b, vs, rfl, .of h1, fun l hl => post.newL q1 S1 rs.rev hl⟩
      · exact q1.elim
    · exact q1.elim
/-! ### fields -/
theorem RepFs.get {α : List Addr} {H : Hp} {f : Nm} : ∀ {fs : List (Nm × W)} {fs' : List (Str × V)}, RepFs p α H fs fs' →
    (getF fs f = none ∧ fs'.lookup (nmS f) = none) ∨ ∃ w v, getF fs f = some w ∧ fs'.lookup (nmS f) = some v ∧ RepV p α H w v
  | [], _, h => by
    have : _ = [] := h
    subst this
    exact .inl ⟨rfl, rfl⟩
  | (a, w) :: r, _, ⟨v, q, e, rv, rr⟩ => by
    subst e
    by_cases ha : a = f
    · subst ha
      exact .inr ⟨w, v, by simp [getF], by simp [List.lookup_cons], rv⟩
    · have hb : (nmS f == nmS a) = false := by
        rw [beq_eq_false_iff_ne]
        intro e
        have := congrArg (fun z : Str => z.cps.toList) e
        exact ha (by simpa using this.symm)
      simp only [getF, if_neg ha, List.lookup_cons, hb]
      exact RepFs.get rr
theorem Sim.ins {α : List Addr} {H : Hp} {g : G} {i c : Nat} {fs : List (Nm × W)} {a : Addr} (s : Sim p α g H) (e : g[i]? = some (.ins c fs)) (ea : α[i]? = some a) : ∃ dx fs', H a = some (.ins (p.ca c) dx fs') ∧ c < p.nc ∧ RepFs p α H fs fs' := s.ob i _ a e ea
/-- the classes whose fields are plain: no attribute of the class has such a name -/
def FldOk (p : Px) (f : Nm) : Prop := ∀ c, c < p.nc → Cls p.K (p.ca c) ∧ NoAttr p.K (p.ca c) (nmS f)
theorem e_fld {a : Expr} {a' : E} {f : Nm} {pos : Pos} (hK : p.K = X.K) (hf : FldOk p f) (h1 : PE X a (tV p Wx T call a')) (hb : attributeBase a (nmS f) X.env (eval a X.env) = eval a X.env) : PE X (.Attribute a (nmS f) pos) (tV p Wx T call (.fld a' f)) :=
  PE.by fun σ H Q ⟨α, ρ, g, S, E, q⟩ => by
    refine ⟨_, pe_fld h1 hb, α, ρ, g, S, E, ?_⟩
    simp only [ev] at q
    refine (post.bind (Rq := RepV p) q).imp fun x H1 _ ⟨α1, g1, w, K1, S1, r, q1⟩ => ?_
    split at q1
    · rename_i i
      obtain ⟨b, rfl, eb⟩ := r.ref'
      split at q1
      · rename_i c fs e
        obtain ⟨w, e2, q2⟩ := post.of q1
        obtain ⟨dx, fs', h1, hc, rf⟩ := S1.ins e eb
        obtain ⟨k1, k2⟩ := hf c hc
        rcases RepFs.get (f := f) rf with ⟨a1, a2⟩ | ⟨w', v', a1, a2, a3⟩
        · rw [a1] at e2; cases e2
        · rw [a1] at e2; cases e2
          exact ⟨b, p.ca c, dx, fs', v', rfl, h1, hK ▸ k1, hK ▸ k2, a2, post.ok q2 S1 a3⟩
      · exact q1.elim
    · exact q1.elim
/-! ### built-in functions -/
theorem e_b1 {b : B1} {a : Expr} {a' : E} {e : Expr} (r : V → Hp → VK → Prop) (hd : PE X e (fun σ H Q => tV p Wx T call a' σ H fun x H1 => r x H1 Q))
    (hr : ∀ α H g w v k Q, Sim p α g H → RepV p α H w v → b.run w g = some k → (∀ u, RepV p α H k u → Q u H) → r v H Q) : PE X e (tV p Wx T call (.b1 b a')) :=
  PE.by fun σ H Q ⟨α, ρ, g, S, E, q⟩ => by
    refine ⟨_, hd, α, ρ, g, S, E, ?_⟩
    simp only [ev] at q
    refine (post.bind (Rq := RepV p) q).imp fun x H1 _ ⟨α1, g1, w, K1, S1, rx, q1⟩ => ?_
    obtain ⟨k, e1, q2⟩ := post.of q1
    exact hr α1 H1 g1 w x k Q S1 rx e1 fun u ru => post.ok q2 S1 ru
theorem run_abs {α : List Addr} {H : Hp} {g : G} {w k : W} {v : V} (R1 : RepV p α H w v) (e : B1.abs.run w g = some k) : ∃ i : Int, v = .int i ∧ k = .int (if i < 0 then -i else i) := by
  cases w <;> simp [B1.run] at e
  exact ⟨_, R1.int', e.symm⟩
theorem run_int1 {α : List Addr} {H : Hp} {g : G} {w k : W} {v : V} (R1 : RepV p α H w v) (e : B1.int.run w g = some k) : (∃ i : Int, v = .int i ∧ k = .int i) ∨ ∃ b : Bool, v = .bl b ∧ k = .int (if b then 1 else 0) := by
  cases w <;> simp [B1.run] at e
  · exact .inr ⟨_, R1.bl', e.symm⟩
  · exact .inl ⟨_, R1.int', e.symm⟩
theorem run_len (hK : p.K = X.K) {α : List Addr} {H : Hp} {g : G} {w k : W} {v : V} (S : Sim p α g H) (R1 : RepV p α H w v) (e : B1.len.run w g = some k) :
    (∃ n, LenV X.K v H n ∧ k = .int (n : Nat)) ∨ ∃ a kvs, v = .ref a ∧ Rd H a (.dK kvs) ∧ k = .int (kvs.length : Nat) := by
  cases w with
  | str s =>
    simp [B1.run] at e
    obtain ⟨c, e⟩ := e
    rw [R1.str']
    exact .inl ⟨s.length, ⟨by rw [strV_len]; exact sizeLine_lim c, (strV_len s).symm⟩, e.symm⟩
  | tup ws =>
    obtain ⟨a, vs, rfl, TT, r⟩ := R1.tup'
    simp [B1.run] at e
    exact .inl ⟨ws.length, .inr ⟨vs, hK ▸ TT, r.length⟩, e.symm⟩
  | fl ws =>
    obtain ⟨a, vs, rfl, L, r⟩ := R1.fl'
    simp [B1.run] at e
    exact .inl ⟨ws.length, .inl ⟨vs, hK ▸ L.sq, r.length⟩, e.symm⟩
  | ref i =>
    obtain ⟨a, rfl, ea⟩ := R1.ref'
    simp only [B1.run] at e
    split at e
    · rename_i ws f
      obtain ⟨vs, h1, r⟩ := S.lst f ea
      cases e
      exact .inl ⟨ws.length, .inl ⟨vs, .of h1, r.length⟩, rfl⟩
    · rename_i kvs f
      obtain ⟨kvs', h1, r⟩ := S.dict f ea
      cases e
      exact .inr ⟨a, kvs', rfl, .inl h1, by rw [r.length]⟩
    · rename_i kvs f
      obtain ⟨kvs', h1, r⟩ := S.dictR f (.inr rfl) ea
      cases e
      exact .inr ⟨a, kvs', rfl, h1, by rw [r.length]⟩
    · cases e
  | _ => simp [B1.run] at e
/-- len of anything served -/
theorem call_lenA (hK : p.K = X.K) : CallR X (.builtin "len") (fun xs H Q => ∃ x, xs = [x] ∧ ((∃ n, LenV X.K x H n ∧ Q (.int n) H) ∨ ∃ a kvs, x = .ref a ∧ Rd H a (.dK kvs) ∧ Q (.int kvs.length) H)) := by
  rintro pins s σ H xs us Q I r ⟨x, rfl, h⟩
  rcases h with ⟨n, l, q⟩ | ⟨a, kvs, rfl, hd, q⟩
  · exact call_len pins s σ H _ us Q I r ⟨x, n, rfl, l, q⟩
  · obtain ⟨u, rfl, ru⟩ := vals1 r
    cases ru
    exact d_len I hd fun t s' I' => ⟨.int _, H, I', ⟨t, rfl⟩, q⟩
/-- repr of a list, a tuple, where no repr is under way -/
theorem call_reprD (hg : X.A.guards = some []) (hu : X.A.units + 64 < cLine) : CallR X (.builtin "repr") (fun xs H Q => ∃ a d, xs = [V.ref a] ∧ Dp X.K H (.ref a) d ∧ d.showable = true ∧ d.hasDict = false ∧ d.depth ≤ 60 ∧ d.shown.length ≤ sizeLine ∧ Q (.str d.shown) H) := by
  rintro pins s σ H xs us Q I r ⟨a, d, rfl, D, h1, h2, h3, h4, q⟩
  obtain ⟨u, rfl, rx⟩ := vals1 r
  obtain ⟨as, R⟩ := Dp.reads I d _ u D rx
  cases rx
  refine repr_of_reads' R h1 (fun z => ?_) hg (by omega) (fun _ _ e => e) (fun h' u tk k => ⟨.str d.shown, H, I.kept k, ⟨u, rfl⟩, q⟩) h4
  rw [h2] at z; cases z
theorem noDict_all {g : G} {n : Nat} (ih : ∀ w, (pd g n w).hasDict = false) : ∀ ws : List W, PySem.PyData.hasDictAll (ws.map (pd g n)) = false
  | [] => rfl
  | w :: ws => by simp only [List.map_cons, PySem.PyData.hasDictAll, ih w, noDict_all ih ws]; rfl
theorem noDict (g : G) : ∀ (n : Nat) (w : W), (pd g n w).hasDict = false
  | 0, _ => rfl
  | n + 1, w => by cases w <;> simp only [pd, PySem.PyData.hasDict] <;> exact noDict_all (noDict g n) _
theorem run_repr (hK : p.K = X.K) {α : List Addr} {H : Hp} {g : G} {w k : W} {v : V} (S : Sim p α g H) (R1 : RepV p α H w v) (e : B1.repr.run w g = some k) :
    ∃ a d, v = .ref a ∧ Dp X.K H (.ref a) d ∧ d.showable = true ∧ d.hasDict = false ∧ d.depth ≤ 60 ∧ d.shown.length ≤ sizeLine ∧ k = .str d.shown.cps.toList := by
  have key : ∀ {a : Addr}, v = .ref a → (if dataOk g 60 w && ((pd g 60 w).showable && decide ((pd g 60 w).shown.length ≤ 1000000)) then some (W.str (pd g 60 w).shown.cps.toList) else none) = some k →
      ∃ a d, v = .ref a ∧ Dp X.K H (.ref a) d ∧ d.showable = true ∧ d.hasDict = false ∧ d.depth ≤ 60 ∧ d.shown.length ≤ sizeLine ∧ k = .str d.shown.cps.toList := by
    rintro a rfl e
    split at e
    · rename_i c
      simp only [Bool.and_eq_true, decide_eq_true_eq] at c
      cases e
      exact ⟨a, _, rfl, hK ▸ dp_of S 60 w _ c.1 R1, c.2.1, noDict g 60 w, (lay_of 60 w c.1).2, sizeLine_lim c.2.2, rfl⟩
    · cases e
  cases w with
  | tup ws =>
    obtain ⟨a, vs, rfl, _⟩ := R1.tup'
    exact key rfl e
  | ref i =>
    obtain ⟨a, rfl, _⟩ := R1.ref'
    exact key rfl e
  | _ => simp [B1.run, reprW] at e
/-- two ints -/
theorem e_max2 {e : Expr} {es : List Expr} {a' b' : E} (hd : PE X e (tCB (fun xs H Q => ∃ i j : Int, xs = [.int i, .int j] ∧ Q (.int (if j > i then j else i)) H) (tL p Wx T call (.cons a' (.cons b' .nil))))) : PE X e (tV p Wx T call (.max2 a' b')) :=
  PE.by fun σ H Q ⟨α, ρ, g, S, E, q⟩ => by
    refine ⟨_, hd, α, ρ, g, S, E, ?_⟩
    simp only [ev] at q
    simp only [evl]
    cases e1 : ev T call a' ρ g with
    | err => rw [e1] at q; exact q.elim
    | exc c g1 => rw [e1] at q; exact q
    | ok w g1 =>
      rw [e1] at q
      simp only [R.bind] at q ⊢
      cases e2 : ev T call b' ρ g1 with
      | err => rw [e2] at q; exact q.elim
      | exc c g1 => rw [e2] at q; exact q
      | ok u g2 =>
        rw [e2] at q
        simp only at q ⊢
        intro α1 H1 vs K1 S1 r
        obtain ⟨v1, q1, rfl, r1, r⟩ := r.cons'
        obtain ⟨v2, q2, rfl, r2, r⟩ := r.cons'
        have := r.nil'
        subst this
        split at q
        · exact ⟨_, _, by rw [r1.int', r2.int'], post.ok (post.mono q K1) S1 .int⟩
        · exact q.elim
theorem e_min2 {e : Expr} {a' b' : E} (hd : PE X e (tCB (fun xs H Q => ∃ i j : Int, xs = [.int i, .int j] ∧ Q (.int (if j < i then j else i)) H) (tL p Wx T call (.cons a' (.cons b' .nil))))) : PE X e (tV p Wx T call (.min2 a' b')) :=
  PE.by fun σ H Q ⟨α, ρ, g, S, E, q⟩ => by
    refine ⟨_, hd, α, ρ, g, S, E, ?_⟩
    simp only [ev] at q
    simp only [evl]
    cases e1 : ev T call a' ρ g with
    | err => rw [e1] at q; exact q.elim
    | exc c g1 => rw [e1] at q; exact q
    | ok w g1 =>
      rw [e1] at q
      simp only [R.bind] at q ⊢
      cases e2 : ev T call b' ρ g1 with
      | err => rw [e2] at q; exact q.elim
      | exc c g1 => rw [e2] at q; exact q
      | ok u g2 =>
        rw [e2] at q
        simp only at q ⊢
        intro α1 H1 vs K1 S1 r
        obtain ⟨v1, q1, rfl, r1, r⟩ := r.cons'
        obtain ⟨v2, q2, rfl, r2, r⟩ := r.cons'
        have := r.nil'
        subst this
        split at q
        · exact ⟨_, _, by rw [r1.int', r2.int'], post.ok (post.mono q K1) S1 .int⟩
        · exact q.elim
/-! ### isinstance of built-in types -/
def Ty.name : Ty → String
  | .int => "int" | .bool => "bool" | .str => "str" | .list => "list" | .tuple => "tuple" | .dict => "dict" | .cls _ => ""
/-- what kitOne says of the built-in types, by the written part -/
structure KitOk (K : PySem.W.Frag) : Prop where
  b : ∀ t c : Ty, t.name ≠ "" → c.name ≠ "" → PySem.W.kitOne K (.type t.name) (.type c.name) = some (t.name == c.name || (t.name == "bool" && c.name == "int"))
  n : ∀ c : Ty, c.name ≠ "" → PySem.W.kitOne K (.type "NoneType") (.type c.name) = some false
theorem isTy_rep (hK : p.K = X.K) (k : KitOk X.K) {α : List Addr} {H : Hp} {g : G} {w : W} {v : V} {t : Ty} {b : Bool} (S : Sim p α g H) (R1 : RepV p α H w v) (e : isTy w t g = some b) :
    ∃ tv : Value, TyX X.K H v tv ∧ PySem.W.kitOne X.K tv (.type t.name) = some b := by
  have tupx : ∀ {a : Addr} {vs : List V}, SqT X.K H a vs → TyX X.K H (.ref a) (.type "tuple") := by
    intro a vs h
    rcases h with (h | ⟨o, h⟩) | ⟨o, its, n, h, c, _⟩
    · exact .base (.tup h)
    · exact .fTuple h
    · exact .kTuple h c
  have ans : ∀ {tn : Ty}, tn.name ≠ "" → t.name ≠ "" → TyX X.K H v (.type tn.name) → (tn.name == t.name || (tn.name == "bool" && t.name == "int")) = b → ∃ tv : Value, TyX X.K H v tv ∧ PySem.W.kitOne X.K tv (.type t.name) = some b :=
    fun h1 h2 x y => ⟨_, x, by rw [k.b _ _ h1 h2, y]⟩
  cases w with
  | non =>
    have hv := R1.non'
    subst hv
    cases t <;> simp [isTy] at e <;> subst e <;> exact ⟨_, .base .non, k.n _ (by decide)⟩
  | bl c =>
    have hv := R1.bl'
    subst hv
    cases t <;> simp [isTy] at e <;> subst e <;> exact ans (tn := .bool) (by decide) (by decide) (.base (.bl _)) (by decide)
  | int c =>
    have hv := R1.int'
    subst hv
    cases t <;> simp [isTy] at e <;> subst e <;> exact ans (tn := .int) (by decide) (by decide) (.base (.int _)) (by decide)
  | str c =>
    have hv := R1.str'
    subst hv
    cases t <;> simp [isTy] at e <;> subst e <;> exact ans (tn := .str) (by decide) (by decide) (.base (.str _)) (by decide)
  | tup ws =>
    obtain ⟨a, vs, rfl, TT, r⟩ := R1.tup'
    cases t <;> simp [isTy] at e <;> subst e <;> exact ans (tn := .tuple) (by decide) (by decide) (tupx (hK ▸ TT)) (by decide)
  | ref i =>
    obtain ⟨a, rfl, ea⟩ := R1.ref'
    have lx : ∀ {ws : List W}, g[i]? = some (.lst ws) → TyX X.K H (.ref a) (.type "list") := fun f => by
      obtain ⟨vs, h1, r⟩ := S.lst f ea
      exact .base (.lst h1)
    have dx : ∀ {ws : List (W × W)}, g[i]? = some (.dct ws) → TyX X.K H (.ref a) (.type "dict") := fun f => by
      obtain ⟨vs, h1, r⟩ := S.dict f ea
      exact .base (.dK h1)
    cases t <;> simp only [isTy] at e <;> first | (cases e; done) | skip
    all_goals (split at e <;> first | (cases e; done) | skip)
    all_goals (cases e)
    all_goals first
      | (rename_i f; exact ans (tn := .list) (by decide) (by decide) (lx f) (by decide))
      | (rename_i f; exact ans (tn := .dict) (by decide) (by decide) (dx f) (by decide))
  | exn _ => cases t <;> simp [isTy] at e
  | fl _ => cases t <;> simp [isTy] at e
  | fd _ _ => cases t <;> simp [isTy] at e
end
end Dl

/-! DlG: calls. -/
namespace Dl
open PySem L2
/-! ### syntax that is plain -/
def notStar : Expr → Bool
  | .Starred _ _ => false
  | _ => true
theorem star_cons {e : Expr} {es : List Expr} {env : PySem.Env} (h : notStar e = true) : starEach (e :: es) env = (false, eval e env) :: starEach es env := by
  cases e <;> first | rfl | (simp [notStar] at h; done)
theorem star_all {env : PySem.Env} : ∀ {es : List Expr}, es.all notStar = true → (starEach es env).all (fun x => !x.1) = true
  | [], _ => rfl
  | e :: es, h => by
    simp only [List.all_cons, Bool.and_eq_true] at h
    rw [star_cons h.1]
    simp only [List.all_cons, Bool.and_eq_true]
    exact ⟨rfl, star_all h.2⟩
theorem back_all {pos : Pos} {l : List (Bool × Sem Value)} (h : l.all (fun x => !x.1) = true) : (backTo pos l).all (fun x => !x.1) = true := by
  unfold backTo
  rw [List.all_map]
  exact h
theorem back_any {pos : Pos} {l : List (Bool × Sem Value)} (h : l.all (fun x => !x.1) = true) : (backTo pos l).any (·.1) = false := by
  have := back_all (pos := pos) h
  rw [List.any_eq_false]
  intro x hx
  have := List.all_eq_true.mp this x hx
  simpa using this
def notCall0 : Expr → Bool
  | .Call (.Name _ _) [] [] _ => false
  | _ => true
theorem attr_base {o : Expr} {m : Str} {env : PySem.Env} {w : Sem Value} (h : notCall0 o = true) : attributeBase o m env w = w := by
  unfold attributeBase
  split
  · simp [notCall0] at h
  · rfl
theorem form_few {n : Nat} {env : PySem.Env} {es : List Expr} {pos : Pos} (h : es.all notStar = true) (hn : n < 20) : methodCallForm n (backTo pos (starEach es env)) (backToKw pos (keywordEach [] env)) = true := by
  unfold methodCallForm
  rw [back_all (star_all h)]
  show (true && true && decide (n + (if ([] : List (Option Str × Sem Value)).isEmpty then 0 else 1) < 30)) = true
  simp
  omega
theorem meth_eq {o : Expr} {m : Str} {apos pos : Pos} {es : List Expr} {env : PySem.Env} (ho : notCall0 o = true) (hs : es.all notStar = true) (hn : es.length < 20) (hl : (apos.endLine == pos.line) = true) :
    eval (.Call (.Attribute o m apos) es [] pos) env = (do
      let ov ← eval o env
      standAt apos.atName
      let (f, first) ← holding [ov] (getMethod ov m (do return (← importBound o env).getD true))
      callWith pos f first (backTo pos (starEach es env)) (backToKw pos (keywordEach [] env))) := by
  have hf : methodCallForm (es.length + ([] : List Keyword).length) (backTo pos (starEach es env)) (backToKw pos (keywordEach [] env)) = true := form_few hs (by simpa using hn)
  have e : eval (.Call (.Attribute o m apos) es [] pos) env = (do
      let ov ← attributeBase o m env (eval o env)
      standAt apos.atName
      methodCall o m apos pos env ov (es.length + ([] : List Keyword).length) (backTo pos (starEach es env)) (backToKw pos (keywordEach [] env))) := by
    rw [eval]
  rw [e, attr_base ho]
  have hp : methodCallPos true o env apos pos = pure pos := by
    unfold methodCallPos
    rw [if_pos (by rw [hl]; rfl)]
  have hm : ∀ ov, methodCall o m apos pos env ov (es.length + ([] : List Keyword).length) (backTo pos (starEach es env)) (backToKw pos (keywordEach [] env)) = (do
      let (f, first) ← holding [ov] (getMethod ov m (do return (← importBound o env).getD true))
      callWith pos f first (backTo pos (starEach es env)) (backToKw pos (keywordEach [] env))) := by
    intro ov
    unfold methodCall
    rw [hf, hp]
    simp only [calleeOf, if_true, pure_bind]
  simp only [hm]
/-! ### promises -/
/-- what the i-th function of the table promises, by calls -/
def spI (p : Px) (call : CallF) (i : Nat) : Sp := fun vs H Q E => ∃ α g ws, Sim p α g H ∧ RepVs p α H ws vs ∧ post p (fun cls d _ H' => E cls d H') (RepV p) (call i ws g) α H [] Q
theorem post.wx {β γ : Type} {p : Px} {Wx Wy : WX} {Rp : List Addr → Hp → β → γ → Prop} {r : R β} {α : List Addr} {H : Hp} {σ τ : St} {Q : γ → Hp → Prop} (h : post p Wx Rp r α H σ Q) (w : ∀ c H', Wx c none σ H' → Wy c none τ H') : post p Wy Rp r α H τ Q := by
  cases r with
  | ok _ _ => exact h
  | exc c g => exact fun α' H' b s => w _ _ (h α' H' b s)
  | err => exact h
/-- a function of the table as the context knows it -/
structure FnAt (p : Px) (call : CallF) (lv : Nat) (X : Cx) (f : Addr) (i : Nat) : Prop where
  ex : ∃ (fd : FuncData) (ps : List Str), FnOk X.prog X.w X.K X.mg X.base (L2.CX X.prog X.w) lv f fd ps (spI p call i) ∧ Binds X.K fd ps []
  kp : PySem.W.keepIn X.K (.ref f) = true
section
variable {p : Px} {Wx : WX} {X : Cx} {T : Tbl} {call : CallF} {lv : Nat}
/-- the values are there: the callee runs -/
theorem run_at {pins : List (Addr × Obj)} {σ : St} {H : Hp} {s : Shared} {Q : VK} {us : List Value} {vs : List V} {f : Addr} {i : Nat} (F : FnAt p call lv X f i) (hr : Room lv X.A) (tk : Takes X Wx) (I : Inv X pins σ H s) (r : Vals vs us)
    (h : ∃ α g ws, Sim p α g H ∧ RepVs p α H ws vs ∧ post p Wx (RepV p) (call i ws g) α H σ Q) : wpAny (model X.prog X.w) X.A (PySem.call (.ref f) us) (EP X pins σ Q) X.xe s := by
  obtain ⟨fd, ps, F1, F2⟩ := F.ex
  obtain ⟨α, g, ws, S, rs, q⟩ := h
  exact run_fnS (E := WE Wx) F1 hr F2 (passAt tk σ) I r ⟨α, g, ws, S, rs, q.wx fun _ _ z => z⟩
/-- arguments, then a call -/
theorem e_call {x : Str} {f : Addr} {i : Nat} {q1 pos : Pos} {es : List Expr} {es' : EL} (F : FnAt p call lv X f i) (hr : Room lv X.A) (tk : Takes X Wx) (hg : Gl X x) (hm : X.mg x = some (.ref f)) (ha : PA X es (tL p Wx T call es')) (hn : es = [] → es' = .nil) (hs : es.all notStar = true) (hd : (x == ("__debug__" : Str)) = false) :
    PE X (.Call (.Name x q1) es [] pos) (tV p Wx T call (.call i es')) := by
  refine ⟨fun pins s σ H Q I ⟨α, ρ, g, S, E, q⟩ => ?_⟩
  simp only [ev] at q
  refine wpAny_Call_Name_kw (ld_glob I hg hm ?_ hd)
  cases es with
  | nil =>
    have e0 := hn rfl
    subst e0
    simp only [evl, R.bind] at q
    exact PySem.W.callWith_K0 (first := []) I.kIn F.kp (run_at (us := []) F hr tk I .nil ⟨α, g, [], S, .nil, q⟩)
  | cons e es =>
    simp only [List.all_cons, Bool.and_eq_true] at hs
    refine PySem.W.callWith_K (first := []) (h₀ := X.base) I.ok.mod.kin F.kp (thn (ha.run pos pins s σ H (fun vs H1 => ∃ α g ws, Sim p α g H1 ∧ RepVs p α H1 ws vs ∧ post p Wx (RepV p) (call i ws g) α H1 σ Q) I ⟨α, ρ, g, S, E, ?_⟩) fun us s1 ⟨vs, H1, I1, r, h⟩ => ⟨I1.kIn, ?_⟩) (star_cons hs.1) (back_any (star_all hs.2))
    · exact (post.bind (Rq := RepVs p) q).imp fun xs H1 _ ⟨α1, g1, w, K1, S1, r, q1⟩ => ⟨α1, g1, w, S1, r, q1⟩
    · exact run_at F hr tk I1 r h
/-- the classes of the table as the context knows them -/
structure ClOk (p : Px) (T : Tbl) (call : CallF) (lv : Nat) (X : Cx) : Prop where
  /-- a method: where it stands -/
  m : ∀ (c : Nat) (cl : Cl) (m : Nm) (f : Nat), T.cls[c]? = some cl → findM cl.ms m = some f → Cls X.K (p.ca c) ∧ ∃ a, Meth X.K (p.ca c) (nmS m) a ∧ FnAt p call lv X a f
theorem e_meth {o : Expr} {o' : E} {m : Nm} {apos pos : Pos} {es : List Expr} {es' : EL} (C : ClOk p T call lv X) (hr : Room lv X.A) (tk : Takes X Wx) (ho : PE X o (tV p Wx T call o')) (ha : PA X es (tL p Wx T call es')) (hn : es = [] → es' = .nil) (hs : es.all notStar = true)
    (hc : notCall0 o = true) (hl : es.length < 20) (hline : (apos.endLine == pos.line) = true) : PE X (.Call (.Attribute o (nmS m) apos) es [] pos) (tV p Wx T call (.meth o' m es')) := by
  refine ⟨fun pins s σ H Q I ⟨α, ρ, g, S, E, q⟩ => ?_⟩
  simp only [ev] at q
  refine PySem.W.methodCall_KW (thn (ho.run pins s σ H _ I ⟨α, ρ, g, S, E, post.bind (Rq := RepV p) q⟩) fun u s1 ⟨x, H1, I1, rx, α1, g1, w, K1, S1, r, q1⟩ => ?_) (meth_eq hc hs hl hline)
  have E1 := E.mono K1
  cases w with
  | ref i =>
    obtain ⟨a, rfl, ea⟩ := r.ref'
    obtain rfl : u = Value.ref a := rx
    simp only at q1
    split at q1
    · rename_i c fs e
      split at q1
      · rename_i cl ecl
        split at q1
        · rename_i f e1 e2
          obtain ⟨dx, fs', h1, hc, rf⟩ := S1.ins e ea
          obtain ⟨k1, af, k2, F⟩ := C.m c cl m f ecl e1
          have hno : fs'.lookup (nmS m) = none := by
            rcases RepFs.get (f := m) rf with ⟨a1, a2⟩ | ⟨w', v', a1, a2, a3⟩
            · exact a2
            · rw [a1] at e2; cases e2
          refine getmeth_ok I1 h1 k1 k2 hno ?_
          cases es with
          | nil =>
            have e0 := hn rfl
            subst e0
            simp only [evl, R.bind] at q1
            exact PySem.W.callWith_K0 (first := [.ref a]) I1.kIn F.kp (run_at (us := [.ref a]) (vs := [.ref a]) F hr tk I1 (.cons rfl .nil) ⟨α1, g1, [.ref i], S1, .cons r .nil, q1⟩)
          | cons e es =>
            simp only [List.all_cons, Bool.and_eq_true] at hs
            refine PySem.W.callWith_K (first := [.ref a]) (h₀ := X.base) I.ok.mod.kin F.kp (thn (ha.run pos pins s1 σ H1 (fun vs H2 => ∃ α g ws, Sim p α g H2 ∧ RepVs p α H2 ws (.ref a :: vs) ∧ post p Wx (RepV p) (call f ws g) α H2 σ Q) I1 ⟨α1, ρ, g1, S1, E1, ?_⟩) fun us s2 ⟨vs, H2, I2, rv, h⟩ => ⟨I2.kIn, ?_⟩) (star_cons hs.1) (back_any (star_all hs.2))
            · exact (post.bind (Rq := RepVs p) q1).imp fun xs H2 _ ⟨α2, g2, w, K2, S2, r2, q2⟩ => ⟨α2, g2, .ref i :: w, S2, .cons (r.mono K2) r2, q2⟩
            · exact run_at (us := .ref a :: us) (vs := .ref a :: vs) F hr tk I2 (.cons rfl rv) h
        · exact q1.elim
      · exact q1.elim
    · exact q1.elim
  | _ => exact q1.elim
/-- a new instance -/
structure NewOk (p : Px) (T : Tbl) (call : CallF) (lv : Nat) (X : Cx) (c : Nat) : Prop where
  ex : ∃ (cl : Cl) (fi : Addr) (fd : FuncData) (ps : List Str), T.cls[c]? = some cl ∧ Mk X.K (p.ca c) fi ∧ FnOk X.prog X.w X.K X.mg X.base (L2.CX X.prog X.w) lv fi fd ps (spI p call cl.init) ∧ Binds X.K fd ps []
  lt : c < p.nc
theorem run_new {pins : List (Addr × Obj)} {σ : St} {H : Hp} {s : Shared} {Q : VK} {us : List Value} {vs : List V} {c : Nat} (N : NewOk p T call lv X c) (hr : Room (lv + 1) X.A) (tk : Takes X Wx) (I : Inv X pins σ H s) (r : Vals vs us)
    (h : ∃ α g ws, Sim p α g H ∧ RepVs p α H ws vs ∧ post p Wx (RepV p) (match T.cls[c]? with
      | some cl => (call cl.init (.ref g.length :: ws) (g ++ [.ins c []])).bind fun w g2 => match w with
        | .non => .ok (.ref g.length) g2
        | _ => .err
      | none => .err) α H σ Q) : wpAny (model X.prog X.w) X.A (PySem.call (.ref (p.ca c)) us) (EP X pins σ Q) X.xe s := by
  obtain ⟨cl, fi, fd, ps, ec, M, F, B⟩ := N.ex
  obtain ⟨α, g, ws, S, rs, q⟩ := h
  rw [ec] at q
  simp only at q
  have hx := I.hok.fresh (Nat.le_succ s.heap.objs.size)
  have hdx := I.hok.fresh (Nat.le_refl s.heap.objs.size)
  have I2 := Inv.made (C := p.ca c) I
  have S1 := S.junk (u := .own (s.heap.objs.size + 1)) hdx
  have hx' : upd H s.heap.objs.size (.own (s.heap.objs.size + 1)) (s.heap.objs.size + 1) = none := by rw [upd_ne (Nat.ne_of_gt (Nat.lt_succ_self _))]; exact hx
  have S2 : Sim p (α ++ [s.heap.objs.size + 1]) (g ++ [.ins c []]) (upd (upd H s.heap.objs.size (.own (s.heap.objs.size + 1))) (s.heap.objs.size + 1) (.ins (p.ca c) s.heap.objs.size [])) :=
    S1.new hx' ⟨s.heap.objs.size, [], upd_same, N.lt, rfl⟩
  have K1 : Kp α H (α ++ [s.heap.objs.size + 1]) (upd (upd H s.heap.objs.size (.own (s.heap.objs.size + 1))) (s.heap.objs.size + 1) (.ins (p.ca c) s.heap.objs.size [])) := (Kp.junk hdx).trans (.new hx')
  have el : (α ++ [s.heap.objs.size + 1])[g.length]? = some (s.heap.objs.size + 1) := by rw [← S.len]; simp
  have hsp : spI p call cl.init (.ref (s.heap.objs.size + 1) :: vs) (upd (upd H s.heap.objs.size (.own (s.heap.objs.size + 1))) (s.heap.objs.size + 1) (.ins (p.ca c) s.heap.objs.size [])) (fun v H2 => v = .non ∧ Q (.ref (s.heap.objs.size + 1)) H2) (WE Wx σ) := by
    refine ⟨_, _, .ref g.length :: ws, S2, .cons (.ref el) (rs.mono K1), ?_⟩
    have q' := q.mono K1
    refine ((post.bind (Rq := RepV p) q').imp fun v H2 k2 ⟨α2, g2, w, K2, S3, r2, q2⟩ => ?_).wx fun _ _ z => z
    cases w with
    | non => exact ⟨r2.non', post.ok q2 S3 (.ref (K2.pre.get el))⟩
    | _ => exact q2.elim
  have r2 : Vals (V.ref (s.heap.objs.size + 1) :: vs) (Value.ref (s.heap.objs.size + 1) :: us) := .cons rfl r
  have hl : (Value.ref (s.heap.objs.size + 1) :: us).length = ps.length := by
    have e := r2.length
    rw [F.len _ _ _ _ hsp] at e
    exact e.symm
  have b := B { s with heap := (s.heap.push PySem.W.emptyDict).push (PySem.W.instObj (p.ca c) s.heap.objs.size) } (Value.ref (s.heap.objs.size + 1) :: us) I2.kIn (by rw [List.append_nil]; exact hl)
  rw [List.append_nil] at b
  refine wpAny_call (make_map (f := fi) I.kIn M.makes M.init (beq_iff_eq.mp M.fn) (codeAny_mono (F.run _ X.stack _ _ _ _ _ _ (WE Wx σ) (hr.make (p.ca c) us []) (I2.env0.make (p.ca c) us []) b r2 hsp) fun res s' hres => ?_))
  cases res with
  | error e => exact passAt tk σ pins _ _ e s' I2 hres
  | ok fl =>
    cases fl with
    | ret u =>
      obtain ⟨v, H', I3, rv, e3, q3⟩ := I2.after hres
      subst e3
      exact ⟨rv, V.ref (s.heap.objs.size + 1), H', I3, rfl, q3⟩
    | _ => exact hres.elim
theorem e_new {x : Str} {c : Nat} {q1 pos : Pos} {es : List Expr} {es' : EL} (N : NewOk p T call lv X c) (kp : PySem.W.keepIn X.K (.ref (p.ca c)) = true) (hr : Room (lv + 1) X.A) (tk : Takes X Wx) (hg : Gl X x) (hm : X.mg x = some (.ref (p.ca c))) (ha : PA X es (tL p Wx T call es')) (hn : es = [] → es' = .nil) (hs : es.all notStar = true) (hd : (x == ("__debug__" : Str)) = false) :
    PE X (.Call (.Name x q1) es [] pos) (tV p Wx T call (.new c es')) := by
  refine ⟨fun pins s σ H Q I ⟨α, ρ, g, S, E, q⟩ => ?_⟩
  simp only [ev] at q
  refine wpAny_Call_Name_kw (ld_glob I hg hm ?_ hd)
  cases es with
  | nil =>
    have e0 := hn rfl
    subst e0
    simp only [evl, R.bind] at q
    exact PySem.W.callWith_K0 (first := []) I.kIn kp (run_new (us := []) N hr tk I .nil ⟨α, g, [], S, .nil, q⟩)
  | cons e es =>
    simp only [List.all_cons, Bool.and_eq_true] at hs
    refine PySem.W.callWith_K (first := []) (h₀ := X.base) I.ok.mod.kin kp (thn (ha.run pos pins s σ H _ I ⟨α, ρ, g, S, E, post.bind (Rq := RepVs p) q⟩) fun us s1 ⟨vs, H1, I1, r, α1, g1, w, K1, S1, r1, q1⟩ => ⟨I1.kIn, ?_⟩) (star_cons hs.1) (back_any (star_all hs.2))
    exact run_new N hr tk I1 r ⟨α1, g1, w, S1, r1, q1⟩
end
end Dl

/-! DlH: what is walked; comprehensions; built-ins of lists. -/
namespace Dl
open PySem L2
section
variable {p : Px} {Wx : WX} {X : Cx} {T : Tbl} {call : CallF}
/-- J walks what cur says -/
def RepC (p : Px) (α : List Addr) (H : Hp) (cur : Cur) (J : It) : Prop := ∀ α' g' H' j, Kp α H α' H' → Sim p α' g' H' →
  (cur.at_ j g' = some none → J.stop j H') ∧ ∀ w, cur.at_ j g' = some (some w) → J.go j H' ∧ ∀ x H2, J.yld j H' x H2 → Kp α' H' α' H2 ∧ Sim p α' g' H2 ∧ RepV p α' H2 w x
theorem RepC.mono {α α' : List Addr} {H H' : Hp} {c : Cur} {J : It} (h : RepC p α H c J) (k : Kp α H α' H') : RepC p α' H' c J := fun α2 g2 H2 j k2 s => h α2 g2 H2 j (k.trans k2) s
abbrev tC (p : Px) (Wx : WX) (T : Tbl) (call : CallF) (s : Src) : TI := tG p Wx (RepC p) (src T call s)
theorem PI.by {tg iter : Expr} {t : TI} (h : ∀ σ H R, t σ H R → ∃ t', PI X tg iter t' ∧ t' σ H R) : PI X tg iter t :=
  ⟨fun pins s σ H Q I q => let ⟨_, d, q'⟩ := h σ H Q q; d.run pins s σ H Q I q'⟩
theorem repC_tup {α : List Addr} {H : Hp} {ws : List W} {vs : List V} {a : Addr} (TT : SqT p.K H a vs) (r : RepVs p α H ws vs) : RepC p α H (.vals ws) (Itt p.K a) := by
  intro α' g' H' j k s
  have TT' := k.kp.sq TT
  have r' := r.mono k
  refine ⟨fun e => ?_, fun w e => ?_⟩
  · simp only [Cur.at_, Option.some.injEq] at e
    exact ⟨vs, TT', List.getElem?_eq_none_iff.mp (r'.getN e)⟩
  · simp only [Cur.at_, Option.some.injEq] at e
    obtain ⟨v, e1, e2⟩ := r'.get e
    refine ⟨⟨vs, v, TT', e1⟩, fun x H2 y => ?_⟩
    obtain ⟨rfl, y⟩ := y
    have := y vs TT'
    rw [e1] at this
    cases this
    exact ⟨.refl _ _, s, e2⟩
theorem repC_fl {α : List Addr} {H : Hp} {ws : List W} {vs : List V} {a : Addr} (TT : SqF p.K H a vs) (r : RepVs p α H ws vs) : RepC p α H (.vals ws) (Itl p.K a) := by
  intro α' g' H' j k s
  have TT' := (TT.mono k.kp).sq
  have r' := r.mono k
  refine ⟨fun e => ?_, fun w e => ?_⟩
  · simp only [Cur.at_, Option.some.injEq] at e
    exact ⟨vs, TT', List.getElem?_eq_none_iff.mp (r'.getN e)⟩
  · simp only [Cur.at_, Option.some.injEq] at e
    obtain ⟨v, e1, e2⟩ := r'.get e
    refine ⟨⟨vs, v, TT', e1⟩, fun x H2 y => ?_⟩
    obtain ⟨rfl, y⟩ := y
    have := y vs TT'
    rw [e1] at this
    cases this
    exact ⟨.refl _ _, s, e2⟩
theorem repC_live {α : List Addr} {H : Hp} {i : Nat} {a : Addr} (ea : α[i]? = some a) : RepC p α H (.live i) (Itl p.K a) := by
  intro α' g' H' j k s
  have ea' := k.pre.get ea
  refine ⟨fun e => ?_, fun w e => ?_⟩
  · simp only [Cur.at_, Option.map_eq_some_iff] at e
    obtain ⟨ws, e1, e2⟩ := e
    obtain ⟨vs, L, r⟩ := s.lstOf e1 ea'
    exact ⟨vs, L, List.getElem?_eq_none_iff.mp (r.getN e2)⟩
  · simp only [Cur.at_, Option.map_eq_some_iff] at e
    obtain ⟨ws, e1, e2⟩ := e
    obtain ⟨vs, L, r⟩ := s.lstOf e1 ea'
    obtain ⟨v, e3, e4⟩ := r.get e2
    refine ⟨⟨vs, v, L, e3⟩, fun x H2 y => ?_⟩
    obtain ⟨rfl, y⟩ := y
    have := y vs L
    rw [e3] at this
    cases this
    exact ⟨.refl _ _, s, e4⟩
theorem repC_str {α : List Addr} {H : Hp} {z : List Nat} : RepC p α H (.vals (z.map fun c => W.str [c])) (Its (strV z)) := by
  intro α' g' H' j k s
  refine ⟨fun e => ?_, fun w e => ?_⟩
  · simp only [Cur.at_, Option.some.injEq] at e
    have := List.getElem?_eq_none_iff.mp e
    show (strV z).cps.size ≤ j
    simpa using this
  · simp only [Cur.at_, Option.some.injEq, List.getElem?_map, Option.map_eq_some_iff] at e
    obtain ⟨c, e1, rfl⟩ := e
    refine ⟨?_, fun x H2 y => ?_⟩
    · show j < (strV z).cps.size
      have := (List.getElem?_eq_some_iff.mp e1).1
      simpa using this
    · obtain ⟨rfl, c', ec, rfl⟩ := y
      have : c' = c := by
        have h : z[j]? = some c' := by simpa using ec
        rw [e1] at h; cases h; rfl
      subst this
      exact ⟨.refl _ _, s, .str⟩
theorem repC_rng {α : List Addr} {H : Hp} {lo : Int} {n : Nat} : RepC p α H (.vals ((List.range n).map fun (k : Nat) => W.int (lo + k))) (Itr lo n) := by
  intro α' g' H' j k s
  refine ⟨fun e => ?_, fun w e => ?_⟩
  · simp only [Cur.at_, Option.some.injEq] at e
    have := List.getElem?_eq_none_iff.mp e
    show n ≤ j
    simpa using this
  · simp only [Cur.at_, Option.some.injEq, List.getElem?_map, Option.map_eq_some_iff] at e
    obtain ⟨c, e1, rfl⟩ := e
    obtain ⟨h1, h2⟩ := List.getElem?_eq_some_iff.mp e1
    simp at h1 h2
    subst h2
    refine ⟨h1, fun x H2 y => ?_⟩
    obtain ⟨rfl, rfl⟩ := y
    exact ⟨.refl _ _, s, .int⟩
theorem repC_enum {α : List Addr} {H : Hp} {i : Nat} {a : Addr} (ea : α[i]? = some a) : RepC p α H (.lenum i) (Ite p.K a) := by
  intro α' g' H' j k s
  have ea' := k.pre.get ea
  refine ⟨fun e => ?_, fun w e => ?_⟩
  · simp only [Cur.at_, Option.map_eq_some_iff] at e
    obtain ⟨ws, e1, e2⟩ := e
    obtain ⟨vs, L, r⟩ := s.lstOf e1 ea'
    refine ⟨vs, L, List.getElem?_eq_none_iff.mp (r.getN ?_)⟩
    cases h : ws[j]? with
    | none => rfl
    | some w => rw [h] at e2; cases e2
  · simp only [Cur.at_, Option.map_eq_some_iff] at e
    obtain ⟨ws, e1, e2⟩ := e
    obtain ⟨w', e2, rfl⟩ := e2
    obtain ⟨vs, L, r⟩ := s.lstOf e1 ea'
    obtain ⟨v, e3, e4⟩ := r.get e2
    refine ⟨⟨vs, v, L, e3⟩, fun x H2 y => ?_⟩
    obtain ⟨Tp, y', rfl, hT, rfl, hx⟩ := y
    have := hx vs L
    rw [e3] at this
    cases this
    exact ⟨.junk hT, s.junk hT, .tup (.inl (.inl upd_same)) (.cons .int (.cons (e4.mono (.junk hT)) .nil))⟩
theorem repC_zip {α : List Addr} {H : Hp} {i i2 : Nat} {a b : Addr} (ea : α[i]? = some a) (eb : α[i2]? = some b) : RepC p α H (.lzip i i2) (Itz p.K a b) := by
  intro α' g' H' j k s
  have ea' := k.pre.get ea
  have eb' := k.pre.get eb
  cases h1 : lstOf (.ref i) g' with
  | none => simp [Cur.at_, h1]
  | some ws =>
    cases h2 : lstOf (.ref i2) g' with
    | none => simp [Cur.at_, h1, h2]
    | some us =>
      obtain ⟨vs, L, r⟩ := s.lstOf h1 ea'
      obtain ⟨ys, L2, r2⟩ := s.lstOf h2 eb'
      simp only [Cur.at_, h1, h2, Option.some.injEq]
      refine ⟨fun e => ?_, fun w e => ?_⟩
      · refine ⟨vs, ys, L, L2, ?_⟩
        cases c1 : ws[j]? with
        | none => exact .inl (List.getElem?_eq_none_iff.mp (r.getN c1))
        | some x =>
          cases c2 : us[j]? with
          | none => exact .inr (List.getElem?_eq_none_iff.mp (r2.getN c2))
          | some y => rw [c1, c2] at e; cases e
      · cases c1 : ws[j]? with
        | none => rw [c1] at e; cases e
        | some x =>
          cases c2 : us[j]? with
          | none => rw [c1, c2] at e; cases e
          | some y =>
            rw [c1, c2] at e
            cases e
            obtain ⟨v, e3, e4⟩ := r.get c1
            obtain ⟨v2, e5, e6⟩ := r2.get c2
            refine ⟨⟨vs, ys, v, v2, L, L2, e3, e5⟩, fun x H2 y => ?_⟩
            obtain ⟨Tp, y1, y2, rfl, hT, rfl, hx, hy⟩ := y
            have q1 := hx vs L
            have q2 := hy ys L2
            rw [e3] at q1
            rw [e5] at q2
            cases q1
            cases q2
            exact ⟨.junk hT, s.junk hT, .tup (.inl (.inl upd_same)) (.cons (e4.mono (.junk hT)) (.cons (e6.mono (.junk hT)) .nil))⟩
/-- a dict's keys; the dict is locked for good -/
def iKeysL (td : TE) : TI := fun σ H R => td σ H fun x H1 => ∃ d kvs, x = .ref d ∧ ((∃ o, H1 d = some (.frz o (.dK kvs)) ∧ R (Itk d o kvs) H1) ∨ (H1 d = some (.dK kvs) ∧ ∀ o, R (Itk d o kvs) (upd H1 d (.frz o (.dK kvs)))))
theorem pi_keysL {tg e : Expr} {td : TE} (he : PE X e td) : PI X tg e (iKeysL td) := by
  refine ⟨fun pins s σ H R I h => ?_⟩
  refine thn (he.run pins s σ H _ I h) fun u s1 ⟨x, H1, I1, rx, d, kvs, ex, q⟩ => ?_
  subst ex
  obtain rfl : u = Value.ref d := rx
  have fin : ∀ {o : Obj} {H2 : Hp}, Inv X pins σ H2 s1 → H2 d = some (.frz o (.dK kvs)) → R (Itk d o kvs) H2 → wpAny (model X.prog X.w) X.A (pyIter (.ref d)) (PIE X pins σ tg R) X.xe s1 := by
    intro o H2 I2 hd q
    obtain ⟨hs, hgd, hx, es, ep, vs, hdt, hsz, kv, hm⟩ := I2.frzK hd
    refine iter_keys hs hgd hx hdt (pi_one (tk := s1.toks) I2 _ (turn_keys _ hdt) ⟨_, Heap.get?_push_size _ rfl, rfl, ?_⟩ q)
    rw [hsz] <;> rfl
  rcases q with ⟨o, hd, q⟩ | ⟨hd, q⟩
  · exact fin I1 hd q
  · obtain ⟨od, I2⟩ := I1.lock hd trivial
    exact fin I2 upd_same (q od)
theorem keyK_V {α : List Addr} {H : Hp} {w : W} {k : Key} (e : keyK w = some k) : RepV p α H w (kV k) := by
  cases w <;> simp [keyK] at e
  · subst e; exact .int
  · subst e; exact .str
theorem RepKV.at_ {α : List Addr} {H : Hp} : ∀ {kvs : List (W × W)} {kvs' : List (Key × V)} {i : Nat} {w : W}, RepKV p α H kvs kvs' → (kvs.map (·.1))[i]? = some w → ∃ k v, kvs'[i]? = some (k, v) ∧ keyK w = some k
  | [], _, _, _, _, e => by simp at e
  | (a, b) :: r, _, 0, w, ⟨k, v, q, e, ek, rv, rr⟩, h => by
    subst e
    simp at h
    subst h
    exact ⟨k, v, rfl, ek⟩
  | (a, b) :: r, _, i + 1, w, ⟨k, v, q, e, ek, rv, rr⟩, h => by
    subst e
    obtain ⟨k2, v2, e1, e2⟩ := RepKV.at_ (i := i) (w := w) rr (by simpa using h)
    exact ⟨k2, v2, by simpa using e1, e2⟩
theorem repC_keys {α : List Addr} {H : Hp} {a : Addr} {od : Obj} {kvs : List (W × W)} {kvs' : List (Key × V)} (h : H a = some (.frz od (.dK kvs'))) (r : RepKV p α H kvs kvs') : RepC p α H (.vals (kvs.map (·.1))) (Itk a od kvs') := by
  intro α' g' H' j k s
  have h' := k.kp.f _ _ _ h
  refine ⟨fun e => ?_, fun w e => ?_⟩
  · simp only [Cur.at_, Option.some.injEq] at e
    have := List.getElem?_eq_none_iff.mp e
    refine ⟨h', ?_⟩
    rw [← r.length]
    simpa using this
  · simp only [Cur.at_, Option.some.injEq] at e
    obtain ⟨kk, v, e1, e2⟩ := r.at_ e
    refine ⟨⟨h', (List.getElem?_eq_some_iff.mp e1).1⟩, fun x H2 y => ?_⟩
    obtain ⟨rfl, k2, v2, e3, rfl⟩ := y
    rw [e1] at e3
    cases e3
    exact ⟨.refl _ _, s, keyK_V e2⟩
theorem s_seq {tg l : Expr} {l' : E} (hK : p.K = X.K) (hl : PE X l (tV p Wx T call l')) : PI X tg l (tC p Wx T call (.seq l')) :=
  PI.by fun σ H R ⟨α, ρ, g, S, E, q⟩ => by
    simp only [src] at q
    cases h : ev T call l' ρ g with
    | err => rw [h] at q; exact q.elim
    | exc c g1 =>
      rw [h] at q
      refine ⟨_, pi_list hl, α, ρ, g, S, E, ?_⟩
      rw [h]; exact q
    | ok w g1 =>
      rw [h] at q
      simp only [Dl.R.bind] at q
      cases w with
      | tup ws =>
        refine ⟨_, pi_tup hl, α, ρ, g, S, E, ?_⟩
        rw [h]
        intro α1 H1 v K1 S1 r
        obtain ⟨a, vs, rfl, TT, rs⟩ := r.tup'
        exact ⟨a, rfl, ⟨vs, hK ▸ TT⟩, post.ok (Rp := RepC p) (post.mono q K1) S1 (hK ▸ repC_tup TT rs)⟩
      | str z =>
        refine ⟨_, pi_str hl, α, ρ, g, S, E, ?_⟩
        rw [h]
        intro α1 H1 v K1 S1 r
        exact ⟨strV z, r.str', post.ok (Rp := RepC p) (post.mono q K1) S1 repC_str⟩
      | fl ws =>
        refine ⟨_, pi_list hl, α, ρ, g, S, E, ?_⟩
        rw [h]
        intro α1 H1 v K1 S1 r
        obtain ⟨a, vs, rfl, L, rs⟩ := r.fl'
        exact ⟨a, rfl, ⟨vs, hK ▸ L.sq⟩, post.ok (Rp := RepC p) (post.mono q K1) S1 (hK ▸ repC_fl L rs)⟩
      | ref i =>
        have q : post p Wx (RepC p) (match g1[i]? with
          | some (.lst _) => .ok (.live i) g1
          | some (.dct kvs) => .ok (.vals (kvs.map (·.1))) (g1.set i (.fz kvs))
          | some (.fz kvs) => .ok (.vals (kvs.map (·.1))) g1
          | _ => .err) α H σ R := q
        cases hg : g1[i]? with
        | none => rw [hg] at q; exact q.elim
        | some o =>
          rw [hg] at q
          cases o with
          | lst ws =>
            refine ⟨_, pi_list hl, α, ρ, g, S, E, ?_⟩
            rw [h]
            intro α1 H1 v K1 S1 r
            obtain ⟨a, rfl, ea⟩ := r.ref'
            obtain ⟨vs, h1, rs⟩ := S1.lst hg ea
            exact ⟨a, rfl, ⟨vs, .of h1⟩, post.ok (Rp := RepC p) (post.mono q K1) S1 (hK ▸ repC_live ea)⟩
          | dct kvs =>
            refine ⟨_, pi_keysL hl, α, ρ, g, S, E, ?_⟩
            rw [h]
            intro α1 H1 v K1 S1 r
            obtain ⟨a, rfl, ea⟩ := r.ref'
            obtain ⟨kvs', hd, rr⟩ := S1.dict hg ea
            refine ⟨a, kvs', rfl, .inr ⟨hd, fun od => ?_⟩⟩
            have kw : Kp α1 H1 α1 (upd H1 a (.frz od (.dK kvs'))) := .write (by rw [hd]; exact trivial) (List.mem_of_getElem? ea)
            exact q α1 _ _ (K1.trans kw) (S1.write hg ea ⟨od, kvs', upd_same, rr.mono (.refl _) kw.kp⟩) (repC_keys upd_same (rr.mono (.refl _) kw.kp))
          | fz kvs =>
            refine ⟨_, pi_keysL hl, α, ρ, g, S, E, ?_⟩
            rw [h]
            intro α1 H1 v K1 S1 r
            obtain ⟨a, rfl, ea⟩ := r.ref'
            obtain ⟨od, kvs', hd, rr⟩ := S1.fz hg ea
            exact ⟨a, kvs', rfl, .inl ⟨od, hd, post.ok (Rp := RepC p) (post.mono q K1) S1 (repC_keys hd rr)⟩⟩
          | _ => exact q.elim
      | _ => exact q.elim
theorem lim_int {n : Int} (h1 : n ≤ (lim : Int)) (h2 : -(lim : Int) ≤ n) : -(2 ^ 62) ≤ n ∧ n < 2 ^ 62 := by
  have : (lim : Int) = 1000000 := rfl
  omega
theorem s_rng1 {tg a : Expr} {a' : E} {q1 pos : Pos} (hg : Gl X "range") (hm : X.mg "range" = none) (ha : PA X [a] (tL p Wx T call (.cons a' .nil))) (hs : starEach [a] X.env = [(false, eval a X.env)]) : PI X tg (.Call (.Name "range" q1) [a] [] pos) (tC p Wx T call (.rng1 a')) :=
  PI.by fun σ H R ⟨α, ρ, g, S, E, q⟩ => by
    refine ⟨_, pi_range1 hg hm ha hs, α, ρ, g, S, E, ?_⟩
    simp only [src] at q
    simp only [evl]
    cases h : ev T call a' ρ g with
    | err => rw [h] at q; exact q.elim
    | exc c g1 => rw [h] at q; exact q
    | ok w g1 =>
      rw [h] at q
      simp only [Dl.R.bind] at q ⊢
      intro α1 H1 vs K1 S1 r
      obtain ⟨v, q2, rfl, r1, r⟩ := r.cons'
      have := r.nil'
      subst this
      cases w with
      | int n =>
        simp only at q
        split at q
        · rename_i c
          obtain ⟨c1, c2⟩ := lim_int c.1 c.2
          refine ⟨n, by rw [r1.int'], c1, c2, post.ok (Rp := RepC p) (post.mono q K1) S1 ?_⟩
          have e : ((List.range n.toNat).map fun (k : Nat) => W.int k) = (List.range n.toNat).map fun (k : Nat) => W.int (0 + k) := by simp
          rw [e]
          exact repC_rng
        · exact q.elim
      | _ => exact q.elim
theorem s_rng2 {tg a b : Expr} {a' b' : E} {q1 pos : Pos} (hg : Gl X "range") (hm : X.mg "range" = none) (ha : PA X [a, b] (tL p Wx T call (.cons a' (.cons b' .nil)))) (hs : starEach [a, b] X.env = [(false, eval a X.env), (false, eval b X.env)]) (hs2 : starEach [b] X.env = [(false, eval b X.env)]) :
    PI X tg (.Call (.Name "range" q1) [a, b] [] pos) (tC p Wx T call (.rng2 a' b')) :=
  PI.by fun σ H R ⟨α, ρ, g, S, E, q⟩ => by
    refine ⟨_, pi_range2 hg hm ha hs hs2, α, ρ, g, S, E, ?_⟩
    simp only [src] at q
    simp only [evl]
    cases h : ev T call a' ρ g with
    | err => rw [h] at q; exact q.elim
    | exc c g1 => rw [h] at q; exact q
    | ok w g1 =>
      rw [h] at q
      simp only [Dl.R.bind] at q ⊢
      cases h2 : ev T call b' ρ g1 with
      | err => rw [h2] at q; exact q.elim
      | exc c g1 => rw [h2] at q; exact q
      | ok u g2 =>
        rw [h2] at q
        simp only at q ⊢
        intro α1 H1 vs K1 S1 r
        obtain ⟨v, q2, rfl, r1, r⟩ := r.cons'
        obtain ⟨v2, q3, rfl, r2, r⟩ := r.cons'
        have := r.nil'
        subst this
        split at q
        · split at q
          · rename_i c
            obtain ⟨c1, c2, c3, c4⟩ := c
            obtain ⟨d1, d2⟩ := lim_int c1 c2
            obtain ⟨d3, d4⟩ := lim_int c3 c4
            exact ⟨_, _, by rw [r1.int', r2.int'], ⟨d3, d4, d1, d2⟩, post.ok (Rp := RepC p) (post.mono q K1) S1 repC_rng⟩
          · exact q.elim
        · exact q.elim
theorem repC_enumT {α : List Addr} {H : Hp} {ws : List W} {vs : List V} {a : Addr} (TT : SqT p.K H a vs) (r : RepVs p α H ws vs) : RepC p α H (.vals (ws.mapIdx fun (i : Nat) w => W.tup [.int i, w])) (DlU.IteT p.K a) := by
  intro α' g' H' j k s
  have TT' := k.kp.sq TT
  have r' := r.mono k
  refine ⟨fun e => ?_, fun w e => ?_⟩
  · simp only [Cur.at_, Option.some.injEq, List.getElem?_mapIdx, Option.map_eq_none_iff] at e
    exact ⟨vs, TT', List.getElem?_eq_none_iff.mp (r'.getN e)⟩
  · simp only [Cur.at_, Option.some.injEq, List.getElem?_mapIdx, Option.map_eq_some_iff] at e
    obtain ⟨w', e2, rfl⟩ := e
    obtain ⟨v, e3, e4⟩ := r'.get e2
    refine ⟨⟨vs, v, TT', e3⟩, fun x H2 y => ?_⟩
    obtain ⟨Tp, y', rfl, hT, rfl, hx⟩ := y
    have := hx vs TT'
    rw [e3] at this
    cases this
    exact ⟨.junk hT, s.junk hT, .tup (.inl (.inl upd_same)) (.cons .int (.cons (e4.mono (.junk hT)) .nil))⟩
theorem s_enum {a : Expr} {a' : E} {q1 pos tpos : Pos} {elts : List Expr} {kk : Nat} (hK : p.K = X.K) (hg : Gl X "enumerate") (hm : X.mg "enumerate" = none) (ha : PA X [a] (tL p Wx T call (.cons a' .nil))) (hs : starEach [a] X.env = [(false, eval a X.env)]) :
    PI X (.Tuple elts kk tpos) (.Call (.Name "enumerate" q1) [a] [] pos) (tC p Wx T call (.enum a')) :=
  PI.by fun σ H R ⟨α, ρ, g, S, E, q⟩ => by
    simp only [src] at q
    cases h : ev T call a' ρ g with
    | err => rw [h] at q; exact q.elim
    | exc c g1 =>
      rw [h] at q
      refine ⟨_, pi_enum hg hm ha hs, α, ρ, g, S, E, ?_⟩
      simp only [evl]
      rw [h]
      exact q
    | ok w g1 =>
      rw [h] at q
      simp only [Dl.R.bind] at q
      cases w with
      | tup ws =>
        refine ⟨_, DlU.pi_enumT hg hm ha hs, α, ρ, g, S, E, ?_⟩
        simp only [evl]
        rw [h]
        simp only [Dl.R.bind]
        intro α1 H1 vs K1 S1 r
        obtain ⟨v, q2, rfl, r1, r⟩ := r.cons'
        have := r.nil'
        subst this
        obtain ⟨a, vs, rfl, TT, rs⟩ := r1.tup'
        exact ⟨a, vs, rfl, hK ▸ TT, post.ok (Rp := RepC p) (post.mono q K1) S1 (hK ▸ repC_enumT TT rs)⟩
      | ref i =>
        refine ⟨_, pi_enum hg hm ha hs, α, ρ, g, S, E, ?_⟩
        simp only [evl]
        rw [h]
        simp only [Dl.R.bind]
        intro α1 H1 vs K1 S1 r
        obtain ⟨v, q2, rfl, r1, r⟩ := r.cons'
        have := r.nil'
        subst this
        obtain ⟨b, rfl, eb⟩ := r1.ref'
        simp only at q
        split at q
        · rename_i ws f
          obtain ⟨vs, h1, rs⟩ := S1.lst f eb
          exact ⟨b, vs, rfl, .of h1, post.ok (Rp := RepC p) (post.mono q K1) S1 (hK ▸ repC_enum eb)⟩
        · exact q.elim
      | _ => exact q.elim
theorem repC_zipT {α : List Addr} {H : Hp} {ws us : List W} {vs ys : List V} {a b : Addr} (TT : SqT p.K H a vs) (r : RepVs p α H ws vs) (TT2 : SqT p.K H b ys) (r2 : RepVs p α H us ys) : RepC p α H (.vals ((ws.zip us).map fun q => W.tup [q.1, q.2])) (RZ.ItzT p.K a b) := by
  intro α' g' H' j k s
  have TT' := k.kp.sq TT
  have r' := r.mono k
  have TT2' := k.kp.sq TT2
  have r2' := r2.mono k
  refine ⟨fun e => ?_, fun w e => ?_⟩
  · simp only [Cur.at_, Option.some.injEq, List.getElem?_eq_none_iff, List.length_map, List.length_zip] at e
    refine ⟨vs, ys, TT', TT2', ?_⟩
    rw [← r'.length, ← r2'.length]
    omega
  · simp only [Cur.at_, Option.some.injEq, List.getElem?_map, Option.map_eq_some_iff] at e
    obtain ⟨⟨x, y⟩, e1, rfl⟩ := e
    obtain ⟨c1, c2⟩ := List.getElem?_zip_eq_some.mp e1
    obtain ⟨v, e3, e4⟩ := r'.get c1
    obtain ⟨v2, e5, e6⟩ := r2'.get c2
    refine ⟨⟨vs, ys, v, v2, TT', TT2', e3, e5⟩, fun x H2 y => ?_⟩
    obtain ⟨Tp, y1, y2, rfl, hT, rfl, hx, hy⟩ := y
    have q1 := hx vs TT'
    have q2 := hy ys TT2'
    rw [e3] at q1
    rw [e5] at q2
    cases q1
    cases q2
    exact ⟨.junk hT, s.junk hT, .tup (.inl (.inl upd_same)) (.cons (e4.mono (.junk hT)) (.cons (e6.mono (.junk hT)) .nil))⟩
theorem s_zip {a b : Expr} {a' b' : E} {q1 pos tpos : Pos} {elts : List Expr} {kk : Nat} (hK : p.K = X.K) (hg : Gl X "zip") (hm : X.mg "zip" = none) (ha : PA X [a, b] (tL p Wx T call (.cons a' (.cons b' .nil)))) (hs : starEach [a, b] X.env = (false, eval a X.env) :: starEach [b] X.env) (hpl : (backTo pos (starEach [b] X.env)).any (·.1) = false) :
    PI X (.Tuple elts kk tpos) (.Call (.Name "zip" q1) [a, b] [] pos) (tC p Wx T call (.zip a' b')) :=
  PI.by fun σ H R ⟨α, ρ, g, S, E, q⟩ => by
    refine ⟨_, RZ.pi_zipA hg hm ha hs hpl, α, ρ, g, S, E, ?_⟩
    simp only [src] at q
    simp only [evl]
    cases h : ev T call a' ρ g with
    | err => rw [h] at q; exact q.elim
    | exc c g1 => rw [h] at q; exact q
    | ok w g1 =>
      rw [h] at q
      simp only [Dl.R.bind] at q ⊢
      cases h2 : ev T call b' ρ g1 with
      | err => rw [h2] at q; exact q.elim
      | exc c g1 => rw [h2] at q; exact q
      | ok u g2 =>
        rw [h2] at q
        simp only at q ⊢
        intro α1 H1 vs K1 S1 r
        obtain ⟨v, q2, rfl, r1, r⟩ := r.cons'
        obtain ⟨v2, q3, rfl, r2, r⟩ := r.cons'
        have := r.nil'
        subst this
        split at q
        · rename_i i j
          obtain ⟨a1, rfl, ea⟩ := r1.ref'
          obtain ⟨b1, rfl, eb⟩ := r2.ref'
          split at q
          · rename_i x y f1 f2
            obtain ⟨vs, h3, rs⟩ := S1.lst f1 ea
            obtain ⟨us, h4, rs2⟩ := S1.lst f2 eb
            exact ⟨a1, b1, vs, us, rfl, .inl ⟨.of h3, .of h4, post.ok (Rp := RepC p) (post.mono q K1) S1 (hK ▸ repC_zip ea eb)⟩⟩
          · exact q.elim
        · obtain ⟨a1, vs, rfl, TT, rs⟩ := r1.tup'
          obtain ⟨b1, us, rfl, TT2, rs2⟩ := r2.tup'
          exact ⟨a1, b1, vs, us, rfl, .inr ⟨hK ▸ TT, hK ▸ TT2, post.ok (Rp := RepC p) (post.mono q K1) S1 (hK ▸ repC_zipT TT rs TT2 rs2)⟩⟩
        · exact q.elim
end
end Dl

/-! DlI: targets, comprehensions, calls of built-ins on lists. -/
namespace Dl
open PySem L2
/-! ### targets -/
/-- a target's slots -/
def Tg.slots : Tg → List Nat
  | .nm i => [i]
  | .tp ts => ts
def gAll : List Nat → TGs
  | [] => gNil
  | i :: r => gCons (gName i) (gAll r)
def gT (K : PySem.W.Frag) : Tg → TG
  | .nm i => gName i
  | .tp ts => gTup K ts.length (gAll ts)
/-- the slots behind a store -/
def setAllV : List Nat → List V → St → St
  | i :: r, v :: q, σ => setAllV r q (σ.set i (some v))
  | _, _, σ => σ
section
variable {p : Px} {Wx : WX} {X : Cx} {T : Tbl} {call : CallF}
theorem gAll_go {α : List Addr} {H : Hp} : ∀ {ts : List Nat} {ws : List W} {vs : List V} {ρ ρ' : Env} {σ : St} {Q : St → Hp → Prop}, setAll ts ws ρ = some ρ' → RepVs p α H ws vs → SimSt p α H ρ σ →
    (∀ σ', SimSt p α H ρ' σ' → σ' = setAllV ts vs σ → Q σ' H) → gAll ts vs σ H Q
  | [], [], _, ρ, ρ', σ, Q, e, r, S, q => by
    have := r.nil'
    subst this
    simp only [setAll, Option.some.injEq] at e
    subst e
    exact ⟨rfl, q _ S rfl⟩
  | i :: ts, w :: ws, _, ρ, ρ', σ, Q, e, r, S, q => by
    obtain ⟨v, vs, rfl, r1, r2⟩ := r.cons'
    simp only [setAll] at e
    exact ⟨v, vs, rfl, gAll_go e r2 (S.set i r1) fun σ' s e => q σ' s e⟩
  | [], _ :: _, _, _, _, _, _, e, _, _, _ => by simp [setAll] at e
  | _ :: _, [], _, _, _, _, _, e, _, _, _ => by simp [setAll] at e
theorem setAll_len : ∀ {ts : List Nat} {ws : List W} {ρ ρ' : Env}, setAll ts ws ρ = some ρ' → ts.length = ws.length
  | [], [], _, _, _ => rfl
  | _ :: _, _ :: _, _, _, e => by simp only [setAll] at e; simp [setAll_len e]
  | [], _ :: _, _, _, e => by simp [setAll] at e
  | _ :: _, [], _, _, e => by simp [setAll] at e
/-- slots that a store may have changed -/
def Only' (vs : List Nat) (σ σ' : St) : Prop := σ'.length = σ.length ∧ ∀ i, i ∉ vs → σ'[i]? = σ[i]?
theorem setAllV_only : ∀ (ts : List Nat) (xs : List V) (σ : St) (vs : List Nat), (∀ i ∈ ts, i ∈ vs) → Only' vs σ (setAllV ts xs σ)
  | [], _, σ, vs, _ => by simp only [setAllV]; exact ⟨rfl, fun _ _ => rfl⟩
  | i :: ts, [], σ, vs, _ => by simp only [setAllV]; exact ⟨rfl, fun _ _ => rfl⟩
  | i :: ts, x :: xs, σ, vs, h => by
    simp only [setAllV]
    obtain ⟨a, b⟩ := setAllV_only ts xs (σ.set i (some x)) vs fun j hj => h j (List.mem_cons_of_mem _ hj)
    refine ⟨by rw [a]; simp, fun j hj => ?_⟩
    rw [b j hj, List.getElem?_set_ne]
    rintro rfl
    exact hj (h i List.mem_cons_self)
theorem gT_go {α : List Addr} {H : Hp} {t : Tg} {w : W} {v : V} {ρ ρ' : Env} {σ : St} {Q : St → Hp → Prop} {vs : List Nat} (e : t.put w ρ = some ρ') (r : RepV p α H w v) (S : SimSt p α H ρ σ) (hv : ∀ i ∈ t.slots, i ∈ vs)
    (q : ∀ σ', SimSt p α H ρ' σ' → Only' vs σ σ' → Q σ' H) : gT p.K t v σ H Q := by
  cases t with
  | nm i =>
    simp only [Tg.put, Option.some.injEq] at e
    subst e
    refine q _ (S.set i r) ⟨by simp, fun j hj => ?_⟩
    rw [List.getElem?_set_ne]
    rintro rfl
    exact hj (hv i (by simp [Tg.slots]))
  | tp ts =>
    cases w with
    | tup ws =>
      simp only [Tg.put] at e
      obtain ⟨a, xs, rfl, TT, rs⟩ := r.tup'
      exact ⟨a, xs, rfl, TT, by rw [← rs.length, setAll_len e], gAll_go e rs S fun σ' s e' => q σ' s (by rw [e']; exact setAllV_only ts xs σ vs hv)⟩
    | _ => simp [Tg.put] at e
theorem wipe_get (σ : St) (i : Nat) : ∀ vs : List Nat, (wipe σ vs)[i]? = if i ∈ vs ∧ i < σ.length then some none else σ[i]?
  | [] => by simp [wipe]
  | v :: vs => by
    simp only [wipe]
    by_cases h : v = i
    · subst h
      by_cases hl : v < σ.length
      · rw [List.getElem?_set_self (by rw [wipe_length]; exact hl)]; simp [hl]
      · rw [List.getElem?_eq_none_iff.mpr (by simp [wipe_length]; omega), if_neg (by omega)]
        exact (List.getElem?_eq_none_iff.mpr (by omega)).symm
    · rw [List.getElem?_set_ne h, wipe_get σ i vs]
      have : i ∈ v :: vs ↔ i ∈ vs := by simp [Ne.symm h]
      simp only [this]
theorem wipe_same {σ σ' : St} {vs : List Nat} (h : Only' vs (wipe σ vs) σ') : wipe σ' vs = wipe σ vs := by
  apply List.ext_getElem?
  intro i
  rw [wipe_get, wipe_get, h.1, wipe_length]
  by_cases hi : i ∈ vs
  · by_cases hl : i < σ.length
    · rw [if_pos ⟨hi, hl⟩, if_pos ⟨hi, hl⟩]
    · rw [if_neg (fun z => hl z.2), if_neg (fun z => hl z.2)]
      rw [List.getElem?_eq_none_iff.mpr (by rw [h.1, wipe_length]; omega), List.getElem?_eq_none_iff.mpr (by omega)]
  · rw [if_neg (fun z => hi z.1), if_neg (fun z => hi z.1), h.2 i hi, wipe_get, if_neg (fun z => hi z.1)]
theorem SimSt.weak {α : List Addr} {H : Hp} {ρ : Env} {σ σ' : St} (s : SimSt p α H ρ σ) (h : σ' = σ) : SimSt p α H ρ σ' := h ▸ s
/-! ### the items of a new list -/
/-- a list that was just laid, not of the heap that is told -/
def RepN (p : Px) (α : List Addr) (H : Hp) (ws : List W) (v : V) : Prop := ∃ D vs, v = .ref D ∧ H D = some (.lst vs) ∧ D ∉ α ∧ RepVs p α H ws vs
def RepI (p : Px) (α : List Addr) (H : Hp) (ws : List W) (v : V) : Prop := ∃ D vs, v = .ref D ∧ SqL p.K H D vs ∧ RepVs p α H ws vs
theorem RepN.i {α : List Addr} {H : Hp} {ws : List W} {v : V} (h : RepN p α H ws v) : RepI p α H ws v := let ⟨D, vs, e, h1, _, r⟩ := h; ⟨D, vs, e, .of h1, r⟩
theorem Sim.adopt {α : List Addr} {g : G} {H : Hp} {D : Addr} {vs : List V} {ws : List W} (s : Sim p α g H) (h : H D = some (.lst vs)) (n : D ∉ α) (r : RepVs p α H ws vs) : Sim p (α ++ [D]) (g ++ [.lst ws]) H := by
  have lt : ∀ {i : Nat} {o' : Ob} {a : Addr}, (g ++ [Ob.lst ws])[i]? = some o' → (α ++ [D])[i]? = some a → (g[i]? = some o' ∧ α[i]? = some a) ∨ (i = g.length ∧ o' = .lst ws ∧ a = D) := by
    intro i o' a e1 e2
    by_cases hi : i < g.length
    · rw [List.getElem?_append_left hi] at e1
      rw [List.getElem?_append_left (by rw [s.len]; exact hi)] at e2
      exact .inl ⟨e1, e2⟩
    · have : i = g.length := by
        have := (List.getElem?_eq_some_iff.mp e1).1
        simp at this
        omega
      subst this
      rw [List.getElem?_append_right (Nat.le_refl _)] at e1
      rw [← s.len, List.getElem?_append_right (Nat.le_refl _)] at e2
      simp at e1 e2
      exact .inr ⟨rfl, e1.symm, e2.symm⟩
  refine ⟨by simp [s.len], fun i o' a e1 e2 => ?_, ?_⟩
  · rcases lt e1 e2 with ⟨x, y⟩ | ⟨x, y, z⟩
    · exact (s.ob i o' a x y).mono ⟨[D], rfl⟩ (.refl _) rfl
    · subst y z; exact ⟨vs, h, r.mono0 ⟨[a], rfl⟩ (.refl _)⟩
  · rw [List.nodup_append]
    refine ⟨s.nd, by simp, fun a ha b hb => ?_⟩
    have : b = D := by simpa using hb
    subst this
    rintro rfl
    exact n ha
/-- a new list at D, told or not -/
def postN (p : Px) (Wx : WX) (r : R (List W)) (α : List Addr) (H : Hp) (σ : St) (Q : VK) : Prop := match r with
  | .ok ws g' => ∀ α' H' D vs, Kp α H α' H' → Sim p α' g' H' → H' D = some (.lst vs) → D ∉ α' → Kp α H (α' ++ [D]) H' → RepVs p α' H' ws vs → Q (.ref D) H'
  | .exc c g' => ∀ α' H', Kp α H α' H' → Sim p α' g' H' → Wx (.ref (p.xa c)) none σ H'
  | .err => False
def tN (p : Px) (Wx : WX) (f : Env → G → R (List W)) : TE := fun σ H Q => ∃ α ρ g, Sim p α g H ∧ SimSt p α H ρ σ ∧ postN p Wx (f ρ g) α H σ Q
theorem postN.mono {r : R (List W)} {α α' : List Addr} {H H' : Hp} {σ : St} {Q : VK} (h : postN p Wx r α H σ Q) (k : Kp α H α' H') : postN p Wx r α' H' σ Q := by
  cases r with
  | ok w g => exact fun α2 H2 D vs b c d e f z => h α2 H2 D vs (k.trans b) c d e (k.trans f) z
  | exc c g => exact fun α2 H2 b c => h α2 H2 (k.trans b) c
  | err => exact h
theorem alloc_go {f : Env → G → R (List W)} {σ : St} {H : Hp} {Q : VK} (h : tE p Wx (fun ρ g => (f ρ g).bind fun ws g2 => .ok (.ref g2.length) (g2 ++ [.lst ws])) σ H Q) : tN p Wx f σ H Q := by
    obtain ⟨α, ρ, g, S, E, q⟩ := h
    refine ⟨α, ρ, g, S, E, ?_⟩
    simp only at q
    cases hr : f ρ g with
    | err => rw [hr] at q; exact q
    | exc c g1 => rw [hr] at q; exact q
    | ok ws g1 =>
      rw [hr] at q
      intro α1 H1 D vs k1 S1 hD nD k2 rs
      exact q (α1 ++ [D]) H1 (.ref D) k2 (S1.adopt hD nD rs) (.ref (by rw [← S1.len]; simp))
theorem alloc_of {e : Expr} {f : Env → G → R (List W)} (h : PE X e (tN p Wx f)) : PE X e (tE p Wx fun ρ g => (f ρ g).bind fun ws g2 => .ok (.ref g2.length) (g2 ++ [.lst ws])) :=
  PE.by fun σ H Q q => ⟨_, h, alloc_go q⟩
theorem items_of {e : Expr} {f : Env → G → R (List W)} (h : PE X e (tN p Wx f)) : PE X e (tG p Wx (RepI p) f) :=
  PE.by fun σ H Q ⟨α, ρ, g, S, E, q⟩ => by
    refine ⟨_, h, α, ρ, g, S, E, ?_⟩
    cases hr : f ρ g with
    | err => rw [hr] at q; exact q
    | exc c g1 => rw [hr] at q; exact q
    | ok ws g1 =>
      rw [hr] at q
      intro α1 H1 D vs k1 S1 hD nD k2 rs
      exact q α1 H1 (.ref D) k1 S1 ⟨D, vs, rfl, .of hD, rs⟩
/-- what a comprehension has still to give, acc being made -/
def accN (r : R (List W)) (acc : List W) : R (List W) := r.bind fun xs g => .ok (acc ++ xs) g
theorem accN_nil (r : R (List W)) : accN r [] = r := by cases r <;> rfl
def WF : WX := fun _ _ _ _ => False
/-- the block of a comprehension at work -/
abbrev Blk (X : Cx) (scope : Scope) (P : Cx → Prop) : Prop := ∀ (s : Shared) (H : Hp) (C : Addr) (cl : List (Str × Addr)) (fp : List Addr), P (X.blk s H scope (compEnvC scope cl C X.env) fp)
/-- one turn: the target, the test, the element; k: what follows -/
theorem comp_turn {t : Tg} {c : E} {el : E} {α αs : List Addr} {H Hs : Hp} {D : Addr} {acc : List W} {vs : List V} {w : W} {x : V} {ρ ρ' : Env} {σ : St} {g : G} {Q : VK} {own : List Nat} {Nx : Hp → Prop}
    {tt : TT} {te : TE} (htt : tt = tB p WF (tst T call c)) (hte : te = tE p WF (ev T call el)) (k0 : G → R (List W))
    (e : t.put w (wipeE ρ own) = some ρ') (r : RepV p α H w x) (S : Sim p α g H) (E : SimSt p α H (wipeE ρ own) (wipe σ own)) (hv : ∀ i ∈ t.slots, i ∈ own) (hD : H D = some (.lst vs)) (nD : D ∉ α) (ra : RepVs p α H acc vs) (k : Kp αs Hs α H) (hs : Hs D = none) (hacc : acc.length + 1 ≤ lim)
    (q : postN p Wx (accN ((tst T call c ρ' g).nx.bind fun b g1 => match b with
        | false => k0 g1
        | true => (ev T call el ρ' g1).nx.bind fun x g2 => (k0 g2).bind fun xs g3 => .ok (x :: xs) g3) acc) αs Hs σ Q)
    (hN1 : ∀ α' g' H' vs', Kp αs Hs α' H' → Sim p α' g' H' → H' D = some (.lst vs') → D ∉ α' → RepVs p α' H' acc vs' → postN p Wx (accN (k0 g') acc) αs Hs σ Q → Nx H')
    (hN2 : ∀ α' g' H' vs' y, Kp αs Hs α' H' → Sim p α' g' H' → H' D = some (.lst vs') → D ∉ α' → RepVs p α' H' (acc ++ [y]) vs' → postN p Wx (accN (k0 g') (acc ++ [y])) αs Hs σ Q → Nx H') :
    gT p.K t x (wipe σ own) H fun σ2 H2 => wipe σ2 own = wipe σ own ∧ tt σ2 H2 fun b H3 =>
      if b = true then te σ2 H3 fun y H4 => ∃ acc, H4 D = some (.lst acc) ∧ acc.length < sizeLine ∧ Nx (upd H4 D (.lst (acc ++ [y]))) else Nx H3 := by
  refine gT_go e r E hv fun σ2 E2 o2 => ⟨wipe_same o2, ?_⟩
  subst htt hte
  refine ⟨α, ρ', g, S, E2, ?_⟩
  cases hb : tst T call c ρ' g with
  | err => rw [hb] at q; exact q.elim
  | exc c g1 => rw [hb] at q; exact q.elim
  | ok b g1 =>
    rw [hb] at q
    intro α1 H1 b' k1 S1 eb
    have eb : b' = b := eb
    subst eb
    obtain ⟨hD1, nD1⟩ := k1.fr D _ hD nD
    cases b' with
    | false =>
      rw [if_neg (by decide)]
      exact hN1 α1 g1 H1 vs (k.trans k1) S1 hD1 nD1 (ra.mono k1) q
    | true =>
      rw [if_pos rfl]
      refine ⟨α1, ρ', g1, S1, E2.mono k1, ?_⟩
      cases he : ev T call el ρ' g1 with
      | err => simp only [accN, R.bind, R.nx, he] at q; exact q.elim
      | exc c g2 => simp only [accN, R.bind, R.nx, he] at q; exact q.elim
      | ok y g2 =>
        simp only [accN, R.bind, R.nx, he] at q
        intro α2 H2 yv k2 S2 ry
        obtain ⟨hD2, nD2⟩ := k2.fr D _ hD1 nD1
        have ra2 := (ra.mono k1).mono k2
        have hl := ra2.length
        refine ⟨vs, hD2, by have := lim_line; omega, ?_⟩
        have mu : Mut (H2 D) := by rw [hD2]; exact trivial
        have kk : Kp αs Hs α2 H2 := (k.trans k1).trans k2
        have kw : Keep H2 (upd H2 D (.lst (vs ++ [yv]))) := .write mu
        have kk' : Kp αs Hs α2 (upd H2 D (.lst (vs ++ [yv]))) := ⟨kk.pre, kk.kp.trans kw, fun a u e n => by
          obtain ⟨e1, n1⟩ := kk.fr a u e n
          exact ⟨by rw [upd_ne (ne_of_none e hs)]; exact e1, n1⟩⟩
        refine hN2 α2 g2 _ (vs ++ [yv]) y kk' (S2.mono kw fun a u _ _ ha => by
          rw [upd_ne]
          rintro rfl
          exact nD2 ha) upd_same nD2 ((ra2.mono0 (.refl _) kw).append (.cons (ry.mono0 (.refl _) kw) .nil)) ?_
        simp only [accN]
        cases hk : k0 g2 with
        | err => rw [hk] at q; exact q
        | exc c g3 => rw [hk] at q; exact q
        | ok xs g3 =>
          rw [hk] at q
          simp only [R.bind, List.append_assoc, List.cons_append, List.nil_append] at q ⊢
          exact q
/-- a list comprehension of one clause -/
theorem comp_go {own : List Nat} {t : Tg} {s : Src} {c el : E} (hv : ∀ i ∈ t.slots, i ∈ own) {σ : St} {H : Hp} {Q : VK} (h : tN p Wx (its T call (.comp own t s c el)) σ H Q) : tLc (tC p Wx T call s) (gT p.K t) (tB p WF (tst T call c)) (tE p WF (ev T call el)) own σ H Q := by
    obtain ⟨α, ρ, g, S, E, q⟩ := h
    refine ⟨α, ρ, g, S, E, ?_⟩
    simp only [its] at q
    cases hsrc : src T call s ρ g with
    | err => rw [hsrc] at q; exact q
    | exc c g1 => rw [hsrc] at q; exact q
    | ok cur g1 =>
      rw [hsrc] at q
      intro αs Hs J ks Ss rc D hDn
      have q := postN.mono q ks
      have Es := (E.mono ks).wipe own
      have kj : Kp αs Hs αs (upd Hs D (.lst [])) := .junk hDn
      have nDs : D ∉ αs := fun hm => by
        obtain ⟨u, hu⟩ := Ss.trk hm
        rw [hDn] at hu; cases hu
      have Sj := Ss.junk (u := .lst []) hDn
      have stopK : ∀ {α H}, Kp αs Hs α H → Kp αs Hs (α ++ [D]) H := fun {α H} k => ⟨k.pre.trans ⟨[D], rfl⟩, k.kp, fun a u e n => by
        obtain ⟨e1, n1⟩ := k.fr a u e n
        refine ⟨e1, fun hm => ?_⟩
        rcases List.mem_append.mp hm with hm | hm
        · exact n1 hm
        · have : a = D := by simpa using hm
          subst this
          rw [hDn] at e; cases e⟩
      -- the two kinds of walks
      have run : ∀ (rest : Nat → Nat → G → R (List W)), (∀ i m g, cur.at_ i g = some none → ∀ acc, postN p Wx (accN (rest i m g) acc) αs Hs σ Q → ∃ g', rest i m g = .ok [] g' ∧ g' = g) →
          (∀ i m g, cur.at_ i g = none → ∀ acc, postN p Wx (accN (rest i m g) acc) αs Hs σ Q → False) →
          (∀ i m g w, cur.at_ i g = some (some w) → ∀ acc, acc.length ≤ i → postN p Wx (accN (rest i m g) acc) αs Hs σ Q → ∃ m', m = m' + 1 ∧ i + 1 ≤ lim ∧ ∃ ρ', t.put w (wipeE ρ own) = some ρ' ∧
            rest i m g = (tst T call c ρ' g).nx.bind fun b g1 => match b with
              | false => rest (i + 1) m' g1
              | true => (ev T call el ρ' g1).nx.bind fun x g2 => (rest (i + 1) m' g2).bind fun xs g3 => .ok (x :: xs) g3) →
          (∃ m0, postN p Wx (rest 0 m0 g1) αs Hs σ Q) →
          ∃ Wn : Nat → Nat → Hp → Prop, (∃ m, Wn 0 m (upd Hs D (.lst []))) ∧ ∀ i m H, Wn i m H →
            (J.stop i H ∧ Q (.ref D) H) ∨ (J.go i H ∧ ∃ Nx : Hp → Prop, (∀ H', Nx H' → ∃ m', m' < m ∧ Wn (i + 1) m' H') ∧ ∀ x H', J.yld i H x H' → gT p.K t x (wipe σ own) H' fun σ2 H2 => wipe σ2 own = wipe σ own ∧ tB p WF (tst T call c) σ2 H2 fun b H3 =>
              if b = true then tE p WF (ev T call el) σ2 H3 fun y H4 => ∃ acc, H4 D = some (.lst acc) ∧ acc.length < sizeLine ∧ Nx (upd H4 D (.lst (acc ++ [y]))) else Nx H3) := by
        intro rest hstop hno hgo ⟨m0, q0⟩
        refine ⟨fun i m H => ∃ α g acc vs, Kp αs Hs α H ∧ Sim p α g H ∧ H D = some (.lst vs) ∧ D ∉ α ∧ RepVs p α H acc vs ∧ acc.length ≤ i ∧ postN p Wx (accN (rest i m g) acc) αs Hs σ Q,
          ⟨m0, αs, g1, [], [], kj, Sj, upd_same, nDs, .nil, Nat.zero_le _, by rw [accN_nil]; exact q0⟩, ?_⟩
        rintro i m H ⟨α, g, acc, vs, k, S, hD, nD, ra, hl, q⟩
        obtain ⟨c1, c2⟩ := rc α g H i k S
        cases hc : cur.at_ i g with
        | none => exact (hno i m g hc acc q).elim
        | some o =>
          cases o with
          | none =>
            obtain ⟨g', e1, e2⟩ := hstop i m g hc acc q
            subst e2
            rw [e1] at q
            simp only [accN, R.bind, List.append_nil] at q
            exact .inl ⟨c1 hc, q α H D vs k S hD nD (stopK k) ra⟩
          | some w =>
            obtain ⟨m', rfl, hlim, ρ', e1, e2⟩ := hgo i m g w hc acc hl q
            obtain ⟨d1, d2⟩ := c2 w hc
            rw [e2] at q
            refine .inr ⟨d1, fun H' => ∃ α g acc vs, Kp αs Hs α H' ∧ Sim p α g H' ∧ H' D = some (.lst vs) ∧ D ∉ α ∧ RepVs p α H' acc vs ∧ acc.length ≤ i + 1 ∧ postN p Wx (accN (rest (i + 1) m' g) acc) αs Hs σ Q, fun H' h => ⟨m', by omega, h⟩, fun x H' y => ?_⟩
            obtain ⟨k2, S2, r2⟩ := d2 x H' y
            obtain ⟨hD2, nD2⟩ := k2.fr D _ hD nD
            exact comp_turn (own := own) rfl rfl (rest (i + 1) m') e1 r2 S2 ((Es.mono k).mono k2) hv hD2 nD2 (ra.mono k2) (k.trans k2) hDn (by omega) q
              (fun α' g' H' vs' a1 a2 a3 a4 a5 a6 => ⟨α', g', acc, vs', a1, a2, a3, a4, a5, by omega, a6⟩)
              (fun α' g' H' vs' y a1 a2 a3 a4 a5 a6 => ⟨α', g', acc ++ [y], vs', a1, a2, a3, a4, a5, by simp; omega, a6⟩)
      have live : cur.at_ 0 g1 = cur.at_ 0 g1 := rfl
      have mkL : ∀ (hq : postN p Wx (compL t (tst T call c) (ev T call el) (wipeE ρ own) cur FUEL 0 g1) αs Hs σ Q), _ := fun hq =>
        run (fun i m g => if i + m ≤ lim then compL t (tst T call c) (ev T call el) (wipeE ρ own) cur m i g else .err) (fun i m g hc acc q => by
            try simp only at q ⊢
            split at q
            · rename_i hh
              rw [if_pos hh]
              cases m with
              | zero => exact q.elim
              | succ m => simp only [compL, hc]; exact ⟨g, rfl, rfl⟩
            · exact q.elim)
          (fun i m g hc acc q => by
            try simp only at q
            split at q
            · cases m with
              | zero => exact q.elim
              | succ m => simp only [compL, hc] at q; exact q.elim
            · exact q.elim)
          (fun i m g w hc acc hl q => by
            try simp only at q ⊢
            split at q
            · rename_i hh
              cases m with
              | zero => exact q.elim
              | succ m =>
                refine ⟨m, rfl, by omega, ?_⟩
                rw [if_pos hh]
                simp only [compL, hc] at q ⊢
                cases hp : t.put w (wipeE ρ own) with
                | none => rw [hp] at q; exact q.elim
                | some ρ' =>
                  refine ⟨ρ', rfl, ?_⟩
                  simp only [show i + 1 + m ≤ lim by omega, if_true]
                  all_goals first | rfl | (congr 1; done) | (congr 1; funext b g1; cases b <;> rfl)
            · exact q.elim)
          ⟨FUEL, by simp only [show 0 + FUEL ≤ lim from by decide, if_true]; exact hq⟩
      cases cur with
      | vals ws =>
        simp only [R.bind] at q
        split at q
        · rename_i hw
          refine run (fun i m g => if m = ws.length - i ∧ i ≤ ws.length then compV t (tst T call c) (ev T call el) (wipeE ρ own) (ws.drop i) g else .err) (fun i m g hc acc q => ?_) (fun i m g hc acc q => ?_) (fun i m g w hc acc hl q => ?_) ⟨ws.length, by simpa using q⟩
          · simp only [Cur.at_, Option.some.injEq] at hc
            try simp only at q ⊢
            split at q
            · rename_i hh
              rw [if_pos hh, List.drop_eq_nil_of_le (List.getElem?_eq_none_iff.mp hc)]
              exact ⟨g, rfl, rfl⟩
            · exact q.elim
          · simp [Cur.at_] at hc
          · simp only [Cur.at_, Option.some.injEq] at hc
            try simp only at q ⊢
            split at q
            · rename_i hh
              obtain ⟨hlt, hw'⟩ := List.getElem?_eq_some_iff.mp hc
              have hdr : ws.drop i = w :: ws.drop (i + 1) := by rw [List.drop_eq_getElem_cons hlt, hw']
              rw [if_pos hh]
              rw [hdr] at q ⊢
              refine ⟨ws.length - (i + 1), by omega, by omega, ?_⟩
              simp only [compV] at q ⊢
              cases hp : t.put w (wipeE ρ own) with
              | none => rw [hp] at q; exact q.elim
              | some ρ' =>
                refine ⟨ρ', rfl, ?_⟩
                simp only [show (ws.length - (i + 1) = ws.length - (i + 1) ∧ i + 1 ≤ ws.length) from ⟨rfl, hlt⟩, and_self, if_true]
                all_goals first | rfl | (congr 1; done) | (congr 1; funext b g1; cases b <;> rfl)
            · exact q.elim
        · exact q.elim
      | live i => exact mkL q
      | lenum i => exact mkL q
      | lzip i j => exact mkL q
theorem comp_core {elt tg iter : Expr} {ifs : List Expr} {scope : Scope} {own : List (Str × Nat)} {pos : Pos} {t : Tg} {s : Src} {c el : E} (hK : p.K = X.K)
    (hd : ∀ (wi : TI) (g : TG) (tt : TT) (te : TE), wi = tC p Wx T call s → g = gT p.K t → tt = tB p WF (tst T call c) → te = tE p WF (ev T call el) → PE X (.ListComp elt [⟨tg, iter, ifs, 0⟩] scope pos) (tLc wi g tt te (own.map (·.2)))) (hv : ∀ i ∈ t.slots, i ∈ own.map (·.2)) :
    PE X (.ListComp elt [⟨tg, iter, ifs, 0⟩] scope pos) (tN p Wx (its T call (.comp (own.map (·.2)) t s c el))) :=
  PE.by fun σ H Q q => ⟨_, hd _ _ _ _ rfl rfl rfl rfl, comp_go hv q⟩
end
end Dl

/-! DlV: how many texts of a list differ: len(set(names)). -/
namespace DlSets
open PySem PySem.Spec PyProof.Rows
/-- how many differ, the last first -/
def dcR {α : Type} [BEq α] : List α → Nat
  | [] => 0
  | x :: r => if r.any (· == x) then dcR r else dcR r + 1
theorem dcR_le {α : Type} [BEq α] : ∀ l : List α, dcR l ≤ l.length
  | [] => Nat.le_refl _
  | x :: r => by
    have := dcR_le r
    simp only [dcR, List.length_cons]
    split <;> omega
abbrev inL (xs : List Str) (i : Nat) : Str → Bool := fun z => (xs.take i).any (· == z)
abbrev nL (xs : List Str) (i : Nat) : Nat := dcR (xs.take i).reverse
theorem inL_succ {xs : List Str} {i : Nat} (hi : i < xs.length) (z : Str) : inL xs (i + 1) z = (inL xs i z || decide (z = xs.getD i Str.empty)) := by
  have e : xs.getD i Str.empty = xs[i] := by simp [List.getD, hi]
  rw [e]
  show (xs.take (i + 1)).any _ = _
  rw [List.take_succ_eq_append_getElem hi, List.any_append]
  congr 1
  by_cases q : z = xs[i]
  · subst q; simp
  · have : (xs[i] == z) = false := by simpa using fun e : xs[i] = z => q e.symm
    simp [this, q]
theorem nL_succ {xs : List Str} {i : Nat} (hi : i < xs.length) : nL xs (i + 1) = if inL xs i (xs.getD i Str.empty) then nL xs i else nL xs i + 1 := by
  have e : xs.getD i Str.empty = xs[i] := by simp [List.getD, hi]
  rw [e]
  show dcR (xs.take (i + 1)).reverse = _
  rw [List.take_succ_eq_append_getElem hi, List.reverse_append]
  show (if ((xs.take i).reverse).any (· == xs[i]) then _ else _) = _
  rw [List.any_reverse]
  rfl
section
variable {prog : Program} {w : World} {A : Around} {R : Result → Shared → Prop} {it : Addr} {fp wr : List Addr} {Gn : Array GenState → Array GenState → Prop} {n : Nat} {Pv : Nat → Value → Prop} {Sg : Nat → Shared → Prop}
theorem fill_texts (W : WalksS prog w A.in1 it fp wr Gn n Pv Sg) (D : Addr) (hD : D ∉ fp) (xs : List Str) (hx : xs.length = n) (hb : n + 1 < scanBound)
    (hv : ∀ i v, Pv i v → ∃ t, v = .str (xs.getD i Str.empty) t) : ∀ (k i : Nat) (s : Shared), n - i = k → i ≤ n → Sg i s → s.heap.SetOf (PySem.strKind prog w) D (inL xs i) (nL xs i) →
      (∀ s', Moved (D :: wr) Gn s s' → s'.heap.SetOf (PySem.strKind prog w) D (inL xs n) (nL xs n) → R (.ok (.ret .none)) s') →
      codeAny (model prog w) A (.builtin "set.update.loop" ⟨[.ref D, .ref it], []⟩) R s := by
  have hDw : D ∉ wr := fun h => hD (W.sub _ h)
  have more : ∀ b ∈ wr, b ∈ D :: wr := fun b h => List.mem_cons_of_mem _ h
  have stay : ∀ {s s' : Shared} {S : Str → Bool} {m : Nat}, (∀ b o, b ∉ wr → s.heap.get? b = some o → s'.heap.get? b = some o) → s.heap.SetOf (PySem.strKind prog w) D S m → s'.heap.SetOf (PySem.strKind prog w) D S m := by
    rintro s s' S m k ⟨o, es, ep, t, e, more⟩
    exact ⟨o, es, ep, t, k D o hDw e, more⟩
  intro k
  induction k with
  | zero =>
    intro i s hk hi st hS hR
    obtain rfl : i = n := by omega
    refine codeAny_builtin PyProof.Rows.F.entry_set_update_loop ?_
    rw [Around.under_plainId PyProof.Rows.F.plain_set_update_loop _]
    show wpAny _ A.in1 (pyNext (.ref it) >>= _) _ _ s
    refine wpAny_bind (W.done s _ _ st fun s1 mv => ?_)
    exact wpAny_pure (hR s1 (mv.mono more) (stay mv.heap hS))
  | succ k ih =>
    intro i s hk hi st hS hR
    have hlt : i < n := by omega
    refine codeAny_builtin PyProof.Rows.F.entry_set_update_loop ?_
    rw [Around.under_plainId PyProof.Rows.F.plain_set_update_loop _]
    show wpAny _ A.in1 (pyNext (.ref it) >>= _) _ _ s
    refine wpAny_bind (W.item i s _ _ hlt st fun v s1 hP st1 mv => ?_)
    obtain ⟨t, rfl⟩ := hv i v hP
    have hS1 := stay mv.heap hS
    show wpAny _ A.in1 (holding [Value.str (xs.getD i Str.empty) t] (setAdd D (Value.str (xs.getD i Str.empty) t)) >>= _) _ _ s1
    refine wpAny_bind (wpAny_holding ?_)
    unfold setAdd
    refine wpAny_holding (wpAny_bind ((PySem.strKind prog w).pyHash (k := xs.getD i Str.empty) (strKind_is _ _ (xs.getD i Str.empty) t) ?_))
    have hle : nL xs i ≤ n := by
      have := dcR_le (xs.take i).reverse
      simp at this
      show dcR _ ≤ n
      omega
    refine wpAny_setAddHashed_of (knd := PySem.strKind prog w) (s := { s1 with toks := s1.toks + 1 }) (strKind_is _ _ _ _) rfl hS1 (by omega) fun h2 sb hS2 => ?_
    have hS3 : h2.SetOf (PySem.strKind prog w) D (inL xs (i + 1)) (nL xs (i + 1)) := SetOf_congr hS2 (fun z => (inL_succ (by omega) z).symm) (nL_succ (by omega)).symm
    refine wpAny_pure ⟨plainId_quiet PyProof.Rows.F.plain_set_update_loop _, ih (i + 1) _ (by omega) hlt (W.frame _ s1 _ _ st1 (Nat.le_succ _) fun b hb o e => ?_) hS3 fun s2 mv2 hS4 => ?_⟩
    · rw [sb.2 b (by rintro rfl; exact hD hb)]; exact e
    · refine hR s2 (Moved.trans W.gtrans ((mv.mono more).then_heap (Nat.le_succ _) fun b o hb e => ?_) mv2) hS4
      rw [sb.2 b (by rintro rfl; exact hb List.mem_cons_self)]; exact e
end
section
variable {prog : Program} {w : World} {A : Around} {E : Value → Shared → Prop} {s : Shared}
theorem set_of_texts {l : Addr} {items : Array Value} {xs : List Str} {Q : Value → Shared → Prop} (hh : A.handled = none) (hl : s.heap.IsList l items) (hi : PyProof.Rows.StrsAre items.toList xs) (hb : xs.length + 1 < scanBound)
    (h : ∀ (h2 : Heap) (tk : Nat), h2.SetOf (PySem.strKind prog w) s.heap.objs.size (inL xs items.size) (nL xs items.size) → (∀ b o, b < s.heap.objs.size → s.heap.get? b = some o → h2.get? b = some o) → Q (.ref s.heap.objs.size) { s with heap := h2, toks := tk }) :
    wpAny (model prog w) A (call (.type "set") [.ref l]) Q E s := by
  obtain ⟨cl, tl, mro⟩ := PySem.F.called_set.mro
  have k1 := PySem.F.called_set.made
  have k2 := PySem.F.called_set.sub
  have k3 := PySem.F.called_set.notType
  have k4 := PySem.F.called_set.canCreate
  have k5 := PySem.F.typeCall_set_1 (.ref l)
  refine wpAny_call (codeAny_of_tree ?_)
  show wpAny _ _ (callAny (.type "set") _) _ _ _
  refine wpAny_pure ⟨Code.quiet_builtin _ (by decide +kernel), codeAny_builtin PySem.F.entry_type_call ?_⟩
  rw [Around.under_plain (weight_type_call_type "set" [.ref l] []) rfl]
  repeat (any_goals (first | assumption | wp_step))
  refine codeAny_mono (code_set_new_1 (.ref l) (E := E) (Q₁ := fun ob s1 => ∃ led : Bool, ob = .ref s.heap.objs.size ∧ s1 = { s with heap := s.heap.push { cls := .type "set", dict := none, data := .set #[] 0 (.fresh 0 0 led) } }) fun led => ⟨led, rfl, rfl⟩) fun r s1 hr => ?_
  cases r with
  | error e => exact hr
  | ok fl =>
    cases fl with
    | ret ob =>
      obtain ⟨led, rfl, rfl⟩ := hr
      generalize hN : s.heap.push { cls := .type "set", dict := none, data := .set #[] 0 (.fresh 0 0 led) } = hn
      have hs : hn.get? s.heap.objs.size = some { cls := .type "set", dict := none, data := .set #[] 0 (.fresh 0 0 led) } := by rw [← hN]; exact Heap.get?_push_size _ rfl
      have hT : Shared.TypeIs { s with heap := hn } (.ref s.heap.objs.size) "set" := ⟨_, hs, rfl⟩
      have k6 := PySem.F.called_set.init.lookup
      have k7 := PySem.F.called_set.init.bind (.ref s.heap.objs.size)
      repeat (any_goals (first | assumption | wp_step))
      refine codeAny_mono (codeAny_call_builtin (R := wants (fun r s2 => r = .none ∧ ∃ h2 tk, s2 = { s with heap := h2, toks := tk } ∧ h2.SetOf (PySem.strKind prog w) s.heap.objs.size (inL xs items.size) (nL xs items.size) ∧
          ∀ b o, b < s.heap.objs.size → s.heap.get? b = some o → h2.get? b = some o) E) PySem.F.called_set.init.plain PySem.F.entry_set_init (check_set_init_1 hT ?_)) fun r2 s2 hr2 => ?_
      · obtain ⟨⟨c0, d0, a0, sl0⟩, hol, hcl, nl, hdl⟩ := hl
        simp only at hcl hdl
        subst hcl hdl
        have hol2 : hn.get? l = some { cls := .type "list", dict := d0, data := .seq items nl, slots := sl0 } := by rw [← hN]; exact Heap.get?_push_of_some _ hol
        have q1 := PySem.F.sub_list_set
        have q2 := PySem.F.sub_list_frozenset
        have q3 : (Value.type "list" == Value.type "dict") = false := by decide
        have hl1 : hn.IsList l items := ⟨_, hol2, rfl, nl, rfl⟩
        unfold Builtin.«set.__init__» noKeywords Builtin.Frozenset.updateFrom
        generalize hPI : pyIter = PI
        wp_walk
        subst hPI
        refine wpAny_pyIter_list hl1 (wpAny_bind (wpAny_runValue ?_))
        have ls : l < s.heap.objs.size := Heap.lt_size hol
        have sz : hn.objs.size = s.heap.objs.size + 1 := by rw [← hN]; exact Heap.size_push ..
        have ne1 : l ≠ hn.objs.size := by rw [sz]; exact Nat.ne_of_lt (Nat.lt_succ_of_lt ls)
        have nf : s.heap.objs.size ∉ [hn.objs.size, l] := by
          rw [sz]
          simp only [List.mem_cons, List.not_mem_nil, or_false, not_or]
          exact ⟨Nat.ne_of_lt (Nat.lt_succ_self _), Nat.ne_of_gt ls⟩
        have hz : xs.length = items.size := by rw [← StrsAre.len_eq hi, Array.length_toList]
        refine fill_texts ((Walks.list (show A.in1.in1.in1.handled = none by simp [hh]) _ l ne1 items).toS) s.heap.objs.size nf xs hz (by omega) (fun i v hv => SS.strs_at hi i v (by rw [Array.getElem?_toList]; exact hv)) (items.size - 0) 0 _ (by omega) (Nat.zero_le _)
          ⟨⟨_, Heap.get?_push_size _ rfl, rfl, rfl⟩, (hl1.push _)⟩ ?fresh ?fin
        case fresh => exact PyProof.Rows.SetOf_congr ((PyProof.Rows.setObjOf_fresh (knd := PySem.strKind prog w) led).setOf (Heap.get?_push_of_some _ hs) (by unfold scanBound; omega)) (fun _ => by simp [inL]) (by simp [nL, dcR])
        case fin =>
          rintro ⟨h2, g2, d2, t2, o2⟩ mv hS
          obtain rfl : g2 = s.gens := mv.gens
          obtain rfl : d2 = s.drawn := mv.drawn
          obtain rfl : o2 = s.os := mv.os
          refine wpAny_pure ?_
          show wpAny _ _ (ret Value.none) _ _ _
          refine wpAny_pure ⟨rfl, h2, t2, rfl, hS, fun b o hb e => ?_⟩
          refine mv.heap b o ?_ (Heap.get?_push_of_some _ (by rw [← hN]; exact Heap.get?_push_of_some _ e))
          simp only [List.mem_cons, List.not_mem_nil, or_false, not_or]
          exact ⟨Nat.ne_of_lt hb, by rw [sz]; exact Nat.ne_of_lt (Nat.lt_succ_of_lt hb)⟩
      · cases r2 with
        | error e => exact hr2
        | ok fl2 =>
          cases fl2 with
          | ret r =>
            obtain ⟨rfl, h2, tk, rfl, hS, kk⟩ := hr2
            repeat (any_goals (first | assumption | wp_step))
            exact h _ _ hS kk
          | _ => exact hr2.elim
    | _ => exact hr.elim
end
end DlSets
namespace L2
open PySem PySem.Spec PyProof.Rows
def tLenTx (K : PySem.W.Frag) (ta : TE) : TE := fun σ H Q => ta σ H fun x H1 => ∃ l, ∃ xs : List Str, x = .ref l ∧ SqL K H1 l (xs.map V.str) ∧ xs.length ≤ 1000 ∧ Q (.int (DlSets.dcR xs.reverse : Nat)) H1
section
variable {X : Cx}
theorem pe_lenTx {a : Expr} {ta : TE} {p p2 q pos : Pos} (hc : X.calm = true) (hg : Gl X "len") (hm : X.mg "len" = none) (hg2 : Gl X "set") (hm2 : X.mg "set" = none) (ha : PE X a ta) (na : starEach [a] X.env = (false, eval a X.env) :: starEach [] X.env) :
    PE X (.Call (.Name "len" p) [.Call (.Name "set" p2) [a] [] q] [] pos) (tLenTx X.K ta) := by
  refine ⟨fun pins s σ H Q I h => ?_⟩
  refine Call_ (ld_blt I hg hm boot_len (PyProof.Rows.callWith_builtin1 (PyProof.Rows.args_cons ?_ rfl) rfl rfl))
  refine Call_ (ld_blt I hg2 hm2 boot_set (PyProof.Rows.callWith_type1 (PyProof.Rows.args_cons (thn (ha.run pins s σ H _ I h) fun v s1 ⟨x, H1, I1, r1, q1⟩ => PyProof.Rows.args_nil ?_) na) na rfl))
  obtain ⟨l, xs, rfl, hq, h1, q1⟩ := q1
  cases r1
  obtain ⟨its, r, pl, hz⟩ := I1.list hq
  have hr := strsAre_of r
  have hlen : its.toArray.size = xs.length := by rw [List.size_toArray, ← r.length, List.length_map]
  refine DlSets.set_of_texts (I1.ok.hd hc) pl.isList (by simpa using hr) (by unfold scanBound; omega) fun h2 tk hS kk => ?_
  refine PyProof.Rows.args_nil ?_
  rw [hlen] at hS
  obtain ⟨o, es, ep, t, ho, hex, hd, _, _, _, hf, hn⟩ := hS
  have I2 : Inv X pins σ H1 { s1 with heap := h2, toks := tk } := I1.kept fun b o e => kk b o (Heap.lt_size e) e
  have hle := DlSets.dcR_le (xs.take xs.length).reverse
  have e0 : DlSets.nL xs xs.length = DlSets.dcR xs.reverse := by show DlSets.dcR (xs.take xs.length).reverse = _; rw [List.take_length]
  refine call_len_set ho hex hd hf (by rw [hn, e0]; simp at hle; omega) ⟨.int _, H1, I2.tok _, ⟨_, by rw [hn, e0]⟩, q1⟩
end
end L2

/-! DlJ: built-ins of lists. -/
namespace Dl
open PySem L2
theorem insI_perm (x : Int) : ∀ l : List Int, (insI x l).Perm (x :: l)
  | [] => .refl _
  | y :: r => by
    simp only [insI]
    split
    · exact .refl _
    · exact ((insI_perm x r).cons y).trans (.swap x y r)
theorem sortI_perm : ∀ l : List Int, (sortI l).Perm l
  | [] => .refl _
  | x :: r => (insI_perm x (sortI r)).trans ((sortI_perm r).cons x)
theorem insI_sorted (x : Int) : ∀ l : List Int, l.Pairwise (· ≤ ·) → (insI x l).Pairwise (· ≤ ·)
  | [], _ => by simp [insI]
  | y :: r, h => by
    simp only [insI]
    rw [List.pairwise_cons] at h
    split
    · rename_i c
      rw [List.pairwise_cons, List.pairwise_cons]
      refine ⟨fun z hz => ?_, h⟩
      rcases List.mem_cons.mp hz with rfl | hz
      · exact c
      · exact Int.le_trans c (h.1 z hz)
    · rename_i c
      rw [List.pairwise_cons]
      refine ⟨fun z hz => ?_, insI_sorted x r h.2⟩
      rcases List.mem_cons.mp ((insI_perm x r).mem_iff.mp hz) with rfl | hz
      · omega
      · exact h.1 z hz
theorem sortI_sorted : ∀ l : List Int, (sortI l).Pairwise (· ≤ ·)
  | [] => by simp [sortI]
  | x :: r => insI_sorted x _ (sortI_sorted r)
theorem sorted_uniq : ∀ {a b : List Int}, a.Perm b → a.Pairwise (· ≤ ·) → b.Pairwise (· ≤ ·) → a = b
  | [], b, p, _, _ => (List.Perm.nil_eq p)
  | x :: a, [], p, _, _ => by simpa using p.length_eq
  | x :: a, y :: b, p, h, k => by
    rw [List.pairwise_cons] at h k
    have h1 : x ≤ y := by
      rcases List.mem_cons.mp (p.mem_iff.mpr (List.mem_cons_self (a := y) (l := b))) with e | e
      · omega
      · exact h.1 y e
    have h2 : y ≤ x := by
      rcases List.mem_cons.mp (p.mem_iff.mp (List.mem_cons_self (a := x) (l := a))) with e | e
      · omega
      · exact k.1 x e
    have e : x = y := by omega
    subst e
    rw [sorted_uniq (List.Perm.cons_inv p) h.2 k.2]
theorem maxI_spec : ∀ {l : List Int} {m : Int}, maxI l = some m → m ∈ l ∧ ∀ y ∈ l, y ≤ m
  | x :: r, m, h => by
    simp only [maxI] at h
    cases e : maxI r with
    | none =>
      rw [e] at h; cases h
      cases r with
      | nil => simp
      | cons y r => simp only [maxI] at e; split at e <;> cases e
    | some y =>
      rw [e] at h
      simp only [Option.some.injEq] at h
      obtain ⟨a, b⟩ := maxI_spec e
      subst h
      split
      · rename_i c
        refine ⟨List.mem_cons_of_mem _ a, fun z hz => ?_⟩
        rcases List.mem_cons.mp hz with rfl | hz
        · omega
        · exact b z hz
      · rename_i c
        refine ⟨List.mem_cons_self, fun z hz => ?_⟩
        rcases List.mem_cons.mp hz with rfl | hz
        · omega
        · have := b z hz; omega
theorem minI_spec : ∀ {l : List Int} {m : Int}, minI l = some m → m ∈ l ∧ ∀ y ∈ l, m ≤ y
  | x :: r, m, h => by
    simp only [minI] at h
    cases e : minI r with
    | none =>
      rw [e] at h; cases h
      cases r with
      | nil => simp
      | cons y r => simp only [minI] at e; split at e <;> cases e
    | some y =>
      rw [e] at h
      simp only [Option.some.injEq] at h
      obtain ⟨a, b⟩ := minI_spec e
      subst h
      split
      · rename_i c
        refine ⟨List.mem_cons_of_mem _ a, fun z hz => ?_⟩
        rcases List.mem_cons.mp hz with rfl | hz
        · omega
        · exact b z hz
      · rename_i c
        refine ⟨List.mem_cons_self, fun z hz => ?_⟩
        rcases List.mem_cons.mp hz with rfl | hz
        · omega
        · have := b z hz; omega
section
variable {p : Px} {Wx : WX} {X : Cx} {T : Tbl} {call : CallF} {α : List Addr} {H : Hp}
theorem ints_rep : ∀ {ws : List W} {l : List Int} {vs : List V}, asInts ws = some l → RepVs p α H ws vs → vs = l.map V.int
  | [], l, vs, e, r => by simp only [asInts, Option.some.injEq] at e; subst e; exact r.nil'
  | w :: ws, l, vs, e, r => by
    obtain ⟨v, q, rfl, a, b⟩ := r.cons'
    cases w <;> simp only [asInts] at e <;> try cases e
    simp only [Option.map_eq_some_iff] at e
    obtain ⟨l', e, rfl⟩ := e
    rw [a.int', ints_rep e b]; rfl
theorem bls_rep : ∀ {ws : List W} {l : List Bool} {vs : List V}, asBls ws = some l → RepVs p α H ws vs → vs = l.map V.bl
  | [], l, vs, e, r => by simp only [asBls, Option.some.injEq] at e; subst e; exact r.nil'
  | w :: ws, l, vs, e, r => by
    obtain ⟨v, q, rfl, a, b⟩ := r.cons'
    cases w <;> simp only [asBls] at e <;> try cases e
    simp only [Option.map_eq_some_iff] at e
    obtain ⟨l', e, rfl⟩ := e
    rw [a.bl', bls_rep e b]; rfl
theorem rep_ints : ∀ {l : List Int}, RepVs p α H (l.map W.int) (l.map V.int)
  | [] => .nil
  | _ :: _ => .cons .int rep_ints
/-- the reading of what stands for a list's items -/
abbrev tI (p : Px) (Wx : WX) (T : Tbl) (call : CallF) (e : E) : TE := tG p Wx (RepI p) (its T call e)
def plainI : E → Bool
  | .comp _ _ _ _ _ | .lst _ => false
  | _ => true
theorem its_plain {e : E} (h : plainI e = true) (ρ : Env) (g : G) : its T call e ρ g = (ev T call e ρ g).bind fun x g1 => R.of (lstOf x g1) g1 := by
  cases e <;> first | (simp only [its]; done) | (simp [plainI] at h; done)
theorem lstOf_rep {g : G} {w : W} {v : V} {ws : List W} (S : Sim p α g H) (r : RepV p α H w v) (e : lstOf w g = some ws) : ∃ a vs, v = .ref a ∧ SqL p.K H a vs ∧ RepVs p α H ws vs := by
  cases w with
  | ref i =>
    obtain ⟨a, rfl, ea⟩ := r.ref'
    obtain ⟨vs, L, rs⟩ := S.lstOf e ea
    exact ⟨a, vs, rfl, L, rs⟩
  | fl us =>
    obtain ⟨a, vs, rfl, L, rs⟩ := r.fl'
    simp only [lstOf, Option.some.injEq] at e
    subst e
    exact ⟨a, vs, rfl, L.sq, rs⟩
  | _ => simp [lstOf] at e
theorem i_plain {e : Expr} {e' : E} (h : plainI e' = true) (he : PE X e (tV p Wx T call e')) : PE X e (tI p Wx T call e') :=
  PE.by fun σ H Q ⟨α, ρ, g, S, E, q⟩ => by
    refine ⟨_, he, α, ρ, g, S, E, ?_⟩
    rw [its_plain h] at q
    refine (post.bind (Rq := RepV p) q).imp fun x H1 _ ⟨α1, g1, w, K1, S1, r, q1⟩ => ?_
    obtain ⟨ws, e1, q2⟩ := post.of q1
    obtain ⟨a, vs, rfl, L, rs⟩ := lstOf_rep S1 r e1
    exact post.ok q2 S1 ⟨a, vs, rfl, L, rs⟩
theorem i_lst {es : List Expr} {es' : EL} {pos : Pos} (h : PA X es (tL p Wx T call es')) (hl : es.length ≤ lim) (hn : ∀ {ρ g ws g'}, evl T call es' ρ g = .ok ws g' → ws.length = es.length) : PE X (.List es pos) (tN p Wx (its T call (.lst es'))) :=
  PE.by fun σ H Q ⟨α, ρ, g, S, E, q⟩ => by
    refine ⟨_, pe_lst h, α, ρ, g, S, E, ?_⟩
    simp only [its] at q
    cases hr : evl T call es' ρ g with
    | err => rw [hr] at q; exact q
    | exc c g1 => rw [hr] at q; exact q
    | ok ws g1 =>
      rw [hr] at q
      have l := hn hr
      intro α1 H1 vs K1 S1 rs
      refine ⟨by rw [← rs.length, l]; exact sizeLine_lim hl, fun D hD => ?_⟩
      refine q α1 _ D vs (K1.trans (.junk hD)) (S1.junk hD) upd_same (fun hm => ?_) (K1.trans (.new hD)) (rs.mono (.junk hD))
      obtain ⟨u, hu⟩ := S1.trk hm
      rw [hD] at hu; cases hu
/-- a call of a built-in with one list -/
theorem e_bs {b : BS} {e a : Expr} {a' : E} (r : List V → Hp → VK → Prop) (hd : PE X e (tCB r (tCons (tI p Wx T call a') tNil)))
    (hr : ∀ α H g D vs ws σ Q, Sim p α g H → SqL p.K H D vs → RepVs p α H ws vs → post p Wx (RepV p) (b.run ws g) α H σ Q → r [.ref D] H Q) : PE X e (tV p Wx T call (.bs b a')) :=
  PE.by fun σ H Q ⟨α, ρ, g, S, E, q⟩ => by
    refine ⟨_, hd, α, ρ, g, S, E, ?_⟩
    simp only [ev] at q
    refine (post.bind (Rq := RepI p) q).imp fun x H1 _ ⟨α1, g1, ws, K1, S1, ⟨D, vs, ex, L, rs⟩, q1⟩ => ?_
    subst ex
    exact hr α1 H1 g1 D vs ws σ Q S1 L rs q1
theorem bs_any (hK : p.K = X.K) {g : G} {D : Addr} {vs : List V} {ws : List W} {σ : St} {Q : VK} (S : Sim p α g H) (L : SqL p.K H D vs) (rs : RepVs p α H ws vs) (q : post p Wx (RepV p) (BS.any.run ws g) α H σ Q) : rAny X.K [.ref D] H Q := by
  simp only [BS.run] at q
  obtain ⟨w, e, q2⟩ := post.of q
  simp only [Option.map_eq_some_iff] at e
  obtain ⟨l, e, rfl⟩ := e
  exact ⟨D, l, rfl, by rw [← bls_rep e rs, ← hK]; exact L, post.ok q2 S .bl⟩
theorem bs_all (hK : p.K = X.K) {g : G} {D : Addr} {vs : List V} {ws : List W} {σ : St} {Q : VK} (S : Sim p α g H) (L : SqL p.K H D vs) (rs : RepVs p α H ws vs) (q : post p Wx (RepV p) (BS.all.run ws g) α H σ Q) : rAll X.K [.ref D] H Q := by
  simp only [BS.run] at q
  obtain ⟨w, e, q2⟩ := post.of q
  simp only [Option.map_eq_some_iff] at e
  obtain ⟨l, e, rfl⟩ := e
  exact ⟨D, l, rfl, by rw [← bls_rep e rs, ← hK]; exact L, post.ok q2 S .bl⟩
theorem bs_sum (hK : p.K = X.K) {g : G} {D : Addr} {vs : List V} {ws : List W} {σ : St} {Q : VK} (S : Sim p α g H) (L : SqL p.K H D vs) (rs : RepVs p α H ws vs) (q : post p Wx (RepV p) (BS.sum.run ws g) α H σ Q) : rSum X.K [.ref D] H Q := by
  simp only [BS.run] at q
  obtain ⟨w, e, q2⟩ := post.of q
  simp only [Option.map_eq_some_iff] at e
  obtain ⟨l, e, rfl⟩ := e
  exact ⟨D, l, rfl, by rw [← ints_rep e rs, ← hK]; exact L, post.ok q2 S .int⟩
theorem bs_max (hK : p.K = X.K) {g : G} {D : Addr} {vs : List V} {ws : List W} {σ : St} {Q : VK} (S : Sim p α g H) (L : SqL p.K H D vs) (rs : RepVs p α H ws vs) (q : post p Wx (RepV p) (BS.max.run ws g) α H σ Q) : rMax X.K [.ref D] H Q := by
  simp only [BS.run] at q
  obtain ⟨w, e, q2⟩ := post.of q
  simp only [Option.map_eq_some_iff, Option.bind_eq_some_iff] at e
  obtain ⟨m, ⟨l, e, em⟩, rfl⟩ := e
  obtain ⟨h1, h2⟩ := maxI_spec em
  refine ⟨D, l, rfl, by rw [← ints_rep e rs, ← hK]; exact L, List.length_pos_of_mem h1, fun m' k1 k2 => ?_⟩
  have : m' = m := Int.le_antisymm (h2 m' k1) (k2 m h1)
  subst this
  exact post.ok q2 S .int
theorem bs_min (hK : p.K = X.K) {g : G} {D : Addr} {vs : List V} {ws : List W} {σ : St} {Q : VK} (S : Sim p α g H) (L : SqL p.K H D vs) (rs : RepVs p α H ws vs) (q : post p Wx (RepV p) (BS.min.run ws g) α H σ Q) : rMin X.K [.ref D] H Q := by
  simp only [BS.run] at q
  obtain ⟨w, e, q2⟩ := post.of q
  simp only [Option.map_eq_some_iff, Option.bind_eq_some_iff] at e
  obtain ⟨m, ⟨l, e, em⟩, rfl⟩ := e
  obtain ⟨h1, h2⟩ := minI_spec em
  refine ⟨D, l, rfl, by rw [← ints_rep e rs, ← hK]; exact L, List.length_pos_of_mem h1, fun m' k1 k2 => ?_⟩
  have : m' = m := Int.le_antisymm (k2 m h1) (h2 m' k1)
  subst this
  exact post.ok q2 S .int
theorem bs_sorted (hK : p.K = X.K) {g : G} {D : Addr} {vs : List V} {ws : List W} {σ : St} {Q : VK} (S : Sim p α g H) (L : SqL p.K H D vs) (rs : RepVs p α H ws vs) (q : post p Wx (RepV p) (BS.sorted.run ws g) α H σ Q) : rSorted X.K [.ref D] H Q := by
  simp only [BS.run] at q
  split at q
  · rename_i l e
    split at q
    · rename_i c
      refine ⟨D, l, rfl, by rw [← ints_rep e rs, ← hK]; exact L, c, fun ns' q1 pe so hq => ?_⟩
      have : ns' = sortI l := sorted_uniq (pe.trans (sortI_perm l).symm) so (sortI_sorted l)
      subst this
      exact post.newL q S rep_ints hq
    · exact q.elim
  · exact q.elim
theorem bs_tuple (hK : p.K = X.K) {g : G} {D : Addr} {vs : List V} {ws : List W} {σ : St} {Q : VK} (S : Sim p α g H) (L : SqL p.K H D vs) (rs : RepVs p α H ws vs) (q : post p Wx (RepV p) (BS.tuple.run ws g) α H σ Q) :
    ∃ q' ys, [V.ref D] = [.ref q'] ∧ ((SqL X.K H q' ys ∧ ∀ l, H l = none → Q (.ref l) (upd H l (.tup ys))) ∨ (SqT X.K H q' ys ∧ Q (.ref q') H)) :=
  ⟨D, vs, rfl, .inl ⟨hK ▸ L, fun l hl => post.newT q S rs hl⟩⟩
theorem bs_list (hK : p.K = X.K) {g : G} {D : Addr} {vs : List V} {ws : List W} {σ : St} {Q : VK} (S : Sim p α g H) (L : SqL p.K H D vs) (rs : RepVs p α H ws vs) (q : post p Wx (RepV p) (BS.list.run ws g) α H σ Q) :
    ∃ q' ys, [V.ref D] = [.ref q'] ∧ (SqL X.K H q' ys ∨ SqT X.K H q' ys) ∧ ∀ l, H l = none → Q (.ref l) (upd H l (.lst ys)) :=
  ⟨D, vs, rfl, .inl (hK ▸ L), fun l hl => post.newL q S rs hl⟩
theorem bs_len (hK : p.K = X.K) {g : G} {D : Addr} {vs : List V} {ws : List W} {σ : St} {Q : VK} (S : Sim p α g H) (L : SqL p.K H D vs) (rs : RepVs p α H ws vs) (q : post p Wx (RepV p) (BS.len.run ws g) α H σ Q) :
    ∃ x, [V.ref D] = [x] ∧ ((∃ n, LenV X.K x H n ∧ Q (.int n) H) ∨ ∃ a kvs, x = .ref a ∧ Rd H a (.dK kvs) ∧ Q (.int kvs.length) H) :=
  ⟨.ref D, rfl, .inl ⟨ws.length, .inl ⟨vs, hK ▸ L, rs.length⟩, post.ok q S .int⟩⟩
/-- tuple(x), list(x) of a value -/
theorem e_bt_tuple {e a : Expr} {a' : E} (hK : p.K = X.K) (hd : PE X e (tCB (fun xs H Q => ∃ q ys, xs = [V.ref q] ∧ ((SqL X.K H q ys ∧ ∀ l, H l = none → Q (.ref l) (upd H l (.tup ys))) ∨ (SqT X.K H q ys ∧ Q (.ref q) H))) (tCons (tV p Wx T call a') tNil))) :
    PE X e (tV p Wx T call (.bt .tuple a')) :=
  PE.by fun σ H Q ⟨α, ρ, g, S, E, q⟩ => by
    refine ⟨_, hd, α, ρ, g, S, E, ?_⟩
    simp only [ev] at q
    refine (post.bind (Rq := RepV p) q).imp fun x H1 _ ⟨α1, g1, w, K1, S1, r, q1⟩ => ?_
    cases h : seqOf w g1 with
    | none => rw [h] at q1; exact q1.elim
    | some ws =>
      rw [h] at q1
      simp only [R.of, R.bind] at q1
      cases w with
      | tup us =>
        simp only [seqOf, Option.some.injEq] at h
        subst h
        have r0 := r
        obtain ⟨b, vs, rfl, TT, rs⟩ := r.tup'
        exact ⟨b, vs, rfl, .inr ⟨hK ▸ TT, post.ok q1 S1 r0⟩⟩
      | ref i =>
        obtain ⟨b, vs, rfl, L, rs⟩ := lstOf_rep S1 r (show lstOf (.ref i) g1 = some ws from h)
        exact ⟨b, vs, rfl, .inl ⟨hK ▸ L, fun l hl => post.newT q1 S1 rs hl⟩⟩
      | fl us =>
        obtain ⟨b, vs, rfl, L, rs⟩ := lstOf_rep S1 r (show lstOf (.fl us) g1 = some ws from h)
        exact ⟨b, vs, rfl, .inl ⟨hK ▸ L, fun l hl => post.newT q1 S1 rs hl⟩⟩
      | _ => simp [seqOf] at h
theorem e_bt_list {e a : Expr} {a' : E} (hK : p.K = X.K) (hd : PE X e (tCB (fun xs H Q => ∃ q ys, xs = [V.ref q] ∧ (SqL X.K H q ys ∨ SqT X.K H q ys) ∧ ∀ l, H l = none → Q (.ref l) (upd H l (.lst ys))) (tCons (tV p Wx T call a') tNil))) :
    PE X e (tV p Wx T call (.bt .list a')) :=
  PE.by fun σ H Q ⟨α, ρ, g, S, E, q⟩ => by
    refine ⟨_, hd, α, ρ, g, S, E, ?_⟩
    simp only [ev] at q
    refine (post.bind (Rq := RepV p) q).imp fun x H1 _ ⟨α1, g1, w, K1, S1, r, q1⟩ => ?_
    cases h : seqOf w g1 with
    | none => rw [h] at q1; exact q1.elim
    | some ws =>
      rw [h] at q1
      simp only [R.of, R.bind] at q1
      cases w with
      | tup us =>
        simp only [seqOf, Option.some.injEq] at h
        subst h
        obtain ⟨b, vs, rfl, TT, rs⟩ := r.tup'
        exact ⟨b, vs, rfl, .inr (hK ▸ TT), fun l hl => post.newL q1 S1 rs hl⟩
      | ref i =>
        obtain ⟨b, vs, rfl, L, rs⟩ := lstOf_rep S1 r (show lstOf (.ref i) g1 = some ws from h)
        exact ⟨b, vs, rfl, .inl (hK ▸ L), fun l hl => post.newL q1 S1 rs hl⟩
      | fl us =>
        obtain ⟨b, vs, rfl, L, rs⟩ := lstOf_rep S1 r (show lstOf (.fl us) g1 = some ws from h)
        exact ⟨b, vs, rfl, .inl (hK ▸ L), fun l hl => post.newL q1 S1 rs hl⟩
      | _ => simp [seqOf] at h
/-! ### len(set(texts)) -/
theorem asStrs_rep : ∀ {ws : List W} {vs : List V} {l : List (List Nat)} {α : List Addr} {H : Hp}, asStrs ws = some l → RepVs p α H ws vs → vs = (l.map strV).map V.str
  | [], _, l, _, _, e, r => by
    simp only [asStrs, Option.some.injEq] at e
    subst e
    rw [r.nil']; rfl
  | w :: ws, _, l, _, _, e, r => by
    obtain ⟨v, q, rfl, a, b⟩ := r.cons'
    cases w <;> simp only [asStrs] at e <;> try (cases e; done)
    obtain ⟨l', e', rfl⟩ := Option.map_eq_some_iff.mp e
    rw [asStrs_rep e' b, a.str']
    rfl
theorem dcN_strV : ∀ l : List (List Nat), DlSets.dcR (l.map strV) = dcN l
  | [] => rfl
  | x :: r => by
    simp only [List.map_cons, DlSets.dcR, dcN, dcN_strV r, List.any_map]
    have : ((fun z => z == strV x) ∘ strV) = fun z => z == x := by
      funext z
      exact strV_beq z x
    rw [this]
theorem e_lset {e : Expr} {a' : E} (hK : p.K = X.K) (hd : PE X e (tLenTx X.K (tV p Wx T call a'))) : PE X e (tV p Wx T call (.lset a')) :=
  PE.by fun σ H Q ⟨α, ρ, g, S, E, q⟩ => by
    refine ⟨_, hd, α, ρ, g, S, E, ?_⟩
    simp only [ev] at q
    refine (post.bind (Rq := RepV p) q).imp fun x H1 _ ⟨α1, g1, w, K1, S1, r, q1⟩ => ?_
    split at q1
    · rename_i i
      obtain ⟨b, rfl, eb⟩ := r.ref'
      split at q1
      · rename_i ws f
        obtain ⟨vs, h1, rs⟩ := S1.lst f eb
        obtain ⟨w', e1, q2⟩ := post.of q1
        obtain ⟨l, e2, e3⟩ := Option.bind_eq_some_iff.mp e1
        split at e3
        · rename_i hl
          cases e3
          have ev := asStrs_rep e2 rs
          refine ⟨b, l.map strV, rfl, .of (ev ▸ h1), by simpa using hl, ?_⟩
          rw [← List.map_reverse, dcN_strV]
          exact post.ok q2 S1 .int
        · cases e3
      · exact q1.elim
    · exact q1.elim
end
end Dl

/-! DlK: methods of lists and dicts; statements. -/
namespace Dl
open PySem L2
section
variable {p : Px} {Wx : WX} {X : Cx} {T : Tbl} {call : CallF} {α : List Addr} {H : Hp}
/-! ### methods -/
theorem m_list {o : Expr} {o' : E} {e : Expr} {m : M} {es' : EL} {t : TA} (r : V → List V → Hp → VK → Prop) (hd : PE X e (tBM X.K "list" r (tV p Wx T call o') (tL p Wx T call es'))) (hK : p.K = X.K)
    (hr : ∀ α H g i a ws vs σ Q, Sim p α g H → α[i]? = some a → RepVs p α H ws vs → post p Wx (RepV p) (m.runL i ws g) α H σ Q → r (.ref a) vs H Q) {σ : St} {Q : VK} {ρ : Env} {g : G} (S : Sim p α g H) (E : SimSt p α H ρ σ)
    (q : post p Wx (RepV p) (ev T call (.mth m o' es') ρ g) α H σ Q) (hm : m ≠ .get) : ∃ t', PE X e t' ∧ t' σ H Q := by
  refine ⟨_, hd, α, ρ, g, S, E, ?_⟩
  simp only [ev] at q
  cases ho : ev T call o' ρ g with
  | err => rw [ho] at q; exact q
  | exc c g1 => rw [ho] at q; exact q
  | ok w g1 =>
    rw [ho] at q
    intro α1 H1 x K1 S1 rx
    simp only [R.bind] at q
    cases w with
    | ref i =>
      obtain ⟨a, rfl, ea⟩ := rx.ref'
      simp only [if_neg hm] at q
      split at q
      · rename_i ws hi
        obtain ⟨vs, h1, rs⟩ := S1.lst hi ea
        refine ⟨.inl ⟨rfl, vs, .of h1⟩, α1, ρ, g1, S1, E.mono K1, ?_⟩
        exact (post.bind (Rq := RepVs p) (post.mono q K1)).imp fun xs H2 _ ⟨α2, g2, us, K2, S2, r2, q2⟩ => hr α2 H2 g2 i a us xs σ Q S2 (K2.pre.get ea) r2 q2
      · exact q.elim
      · exact q.elim
    | _ => exact q.elim
theorem m_list0 {o : Expr} {o' : E} {e : Expr} {m : M} (r : V → List V → Hp → VK → Prop) (hd : PE X e (tBM0 X.K "list" r (tV p Wx T call o'))) (hK : p.K = X.K)
    (hr : ∀ α H g i a ws vs σ Q, Sim p α g H → α[i]? = some a → RepVs p α H ws vs → post p Wx (RepV p) (m.runL i ws g) α H σ Q → r (.ref a) vs H Q) (hm : m ≠ .get) : PE X e (tV p Wx T call (.mth m o' .nil)) :=
  PE.by fun σ H Q ⟨α, ρ, g, S, E, q⟩ => by
  refine ⟨_, hd, α, ρ, g, S, E, ?_⟩
  simp only [ev] at q
  cases ho : ev T call o' ρ g with
  | err => rw [ho] at q; exact q
  | exc c g1 => rw [ho] at q; exact q
  | ok w g1 =>
    rw [ho] at q
    intro α1 H1 x K1 S1 rx
    simp only [R.bind] at q
    cases w with
    | ref i =>
      obtain ⟨a, rfl, ea⟩ := rx.ref'
      simp only [if_neg hm, evl] at q
      split at q
      · rename_i ws hi
        obtain ⟨vs, h1, rs⟩ := S1.lst hi ea
        exact ⟨.inl ⟨rfl, vs, .of h1⟩, hr α1 H1 g1 i a [] [] σ Q S1 ea .nil (post.mono q K1)⟩
      · exact q.elim
      · exact q.elim
    | _ => exact q.elim
theorem wr_list {g : G} {i : Nat} {a : Addr} {ws us : List W} {vs xs : List V} {w : W} {v : V} {σ : St} {Q : VK} (S : Sim p α g H) (e : g[i]? = some (.lst ws)) (ea : α[i]? = some a) (hv : H a = some (.lst vs)) (r : RepVs p α H us xs) (rv : RepV p α H w v)
    (q : post p Wx (RepV p) (.ok w (g.set i (.lst us))) α H σ Q) : Q v (upd H a (.lst xs)) := by
  have mu : Mut (H a) := by rw [hv]; exact trivial
  have k : Kp α H α (upd H a (.lst xs)) := .write mu (List.mem_of_getElem? ea)
  exact q α _ v k (S.write e ea ⟨xs, upd_same, r.mono k⟩) (rv.mono k)
theorem ml_append {g : G} {i : Nat} {a : Addr} {ws : List W} {vs : List V} {σ : St} {Q : VK} (S : Sim p α g H) (ea : α[i]? = some a) (r : RepVs p α H ws vs) (q : post p Wx (RepV p) (M.append.runL i ws g) α H σ Q) : rAppend (.ref a) vs H Q := by
  rcases ws with _ | ⟨y, _ | ⟨z, ws⟩⟩ <;> simp only [M.runL] at q <;> split at q <;> first | exact q.elim | skip
  rename_i xs e
  split at q
  · rename_i c
    obtain ⟨v, q1, rfl, r1, r2⟩ := r.cons'
    have := r2.nil'
    subst this
    obtain ⟨us, h1, rs⟩ := S.lst e ea
    exact ⟨a, us, v, rfl, rfl, h1, by rw [← rs.length]; exact Nat.lt_of_lt_of_le c lim_line, wr_list S e ea h1 (rs.append (.cons r1 .nil)) .non q⟩
  · exact q.elim
theorem ml_extend {g : G} {i : Nat} {a : Addr} {ws : List W} {vs : List V} {σ : St} {Q : VK} (S : Sim p α g H) (ea : α[i]? = some a) (r : RepVs p α H ws vs) (q : post p Wx (RepV p) (M.extend.runL i ws g) α H σ Q) : rExtend (.ref a) vs H Q := by
  rcases ws with _ | ⟨y, _ | ⟨z, ws⟩⟩
  · simp only [M.runL] at q
    split at q <;> exact q.elim
  · cases y <;> simp only [M.runL] at q <;> split at q <;> first | exact q.elim | skip
    rename_i k xs e
    split at q
    · rename_i ys e2
      split at q
      · rename_i c
        obtain ⟨v, q1, rfl, r1, r2⟩ := r.cons'
        have := r2.nil'
        subst this
        obtain ⟨b, rfl, eb⟩ := r1.ref'
        obtain ⟨us, h1, rs⟩ := S.lst e ea
        obtain ⟨zs, h2, rz⟩ := S.lst e2 eb
        exact ⟨a, b, us, zs, rfl, rfl, h1, h2, by rw [← rs.length, ← rz.length]; exact sizeLine_lim c, wr_list S e ea h1 (rs.append rz) .non q⟩
      · exact q.elim
    · exact q.elim
  · cases y <;> simp only [M.runL] at q <;> split at q <;> exact q.elim
theorem ml_pop0 {g : G} {i : Nat} {a : Addr} {ws : List W} {vs : List V} {σ : St} {Q : VK} (S : Sim p α g H) (ea : α[i]? = some a) (r : RepVs p α H ws vs) (q : post p Wx (RepV p) (M.pop0.runL i ws g) α H σ Q) : rPop (.ref a) vs H Q := by
  rcases ws with _ | ⟨y, ws⟩ <;> simp only [M.runL] at q <;> split at q <;> first | exact q.elim | skip
  rename_i xs e
  split at q
  · rename_i y ey
    have := r.nil'
    subst this
    obtain ⟨us, h1, rs⟩ := S.lst e ea
    obtain ⟨v, e1, rv⟩ := rs.get ey
    exact ⟨a, us, v, rfl, rfl, h1, by rw [← rs.length]; exact e1, wr_list S e ea h1 rs.dropLast rv q⟩
  · exact q.elim
/-! ### statements -/
def postS (p : Px) (Wx : WX) (r : RS) (α : List Addr) (H : Hp) (D : Ends) : Prop := match r with
  | .go f ρ' g' => match f with
    | .nx => ∀ α' H' σ', Kp α H α' H' → Sim p α' g' H' → SimSt p α' H' ρ' σ' → D.nx σ' H'
    | .brk => ∀ α' H' σ', Kp α H α' H' → Sim p α' g' H' → SimSt p α' H' ρ' σ' → D.bk σ' H'
    | .cnt => ∀ α' H' σ', Kp α H α' H' → Sim p α' g' H' → SimSt p α' H' ρ' σ' → D.ct σ' H'
    | .ret w => ∀ α' H' v, Kp α H α' H' → Sim p α' g' H' → RepV p α' H' w v → D.rt v H'
  | .exc c ρ' g' => ∀ α' H' σ', Kp α H α' H' → Sim p α' g' H' → SimSt p α' H' ρ' σ' → Wx (.ref (p.xa c)) none σ' H'
  | .err => False
def tS (p : Px) (Wx : WX) (f : Env → G → RS) : TS := fun D σ H => ∃ α ρ g, Sim p α g H ∧ SimSt p α H ρ σ ∧ postS p Wx (f ρ g) α H D
theorem postS.mono {r : RS} {α α' : List Addr} {H H' : Hp} {D : Ends} (h : postS p Wx r α H D) (k : Kp α H α' H') : postS p Wx r α' H' D := by
  cases r with
  | go f ρ g => cases f <;> exact fun α2 H2 x b c d => h α2 H2 x (k.trans b) c d
  | exc c ρ g => exact fun α2 H2 x b c d => h α2 H2 x (k.trans b) c d
  | err => exact h
/-- an expression in a statement -/
theorem ofE {β γ : Type} {Rp : List Addr → Hp → β → γ → Prop} {r : R β} {ρ : Env} {k : β → G → RS} {σ : St} {D : Ends} (h : postS p Wx (RS.of r ρ k) α H D) (E : SimSt p α H ρ σ) :
    post p Wx Rp r α H σ (fun x H1 => ∃ α1 g1 w, Kp α H α1 H1 ∧ Sim p α1 g1 H1 ∧ SimSt p α1 H1 ρ σ ∧ Rp α1 H1 w x ∧ postS p Wx (k w g1) α1 H1 D) := by
  cases r with
  | ok w g => exact fun α1 H1 v b c d => ⟨α1, g, w, b, c, E.mono b, d, postS.mono h b⟩
  | exc c g => exact fun α1 H1 b s => h α1 H1 σ b s (E.mono b)
  | err => exact h
abbrev tX (p : Px) (Wx : WX) (T : Tbl) (call : CallF) (s : S) : TS := tS p Wx (ex T call s)
abbrev tXs (p : Px) (Wx : WX) (T : Tbl) (call : CallF) (s : SL) : TS := tS p Wx (exs T call s)
theorem x_nil : PSs X [] (tXs p Wx T call .nil) :=
  ⟨fun pins s σ H D I ⟨α, ρ, g, S, E, q⟩ => pss_nil.run pins s σ H D I (by simp only [exs] at q; exact q α H σ (.refl _ _) S E)⟩
theorem x_cons {st : Stmt} {rest : List Stmt} {s : Dl.S} {r : SL} (h1 : PS X st (tX p Wx T call s)) (h2 : PSs X rest (tXs p Wx T call r)) : PSs X (st :: rest) (tXs p Wx T call (.cons s r)) :=
  ⟨fun pins sh σ H D I ⟨α, ρ, g, S, E, q⟩ => by
    refine (pss_cons h1 h2).run pins sh σ H D I ⟨α, ρ, g, S, E, ?_⟩
    simp only [exs] at q
    cases hr : ex T call s ρ g with
    | err => rw [hr] at q; exact q
    | exc c ρ1 g1 => rw [hr] at q; exact q
    | go f ρ1 g1 =>
      rw [hr] at q
      cases f with
      | nx => exact fun α1 H1 σ1 k1 S1 E1 => ⟨α1, ρ1, g1, S1, E1, postS.mono q k1⟩
      | brk => exact q
      | cnt => exact q
      | ret w => exact q⟩
theorem PSs.by {e : List Stmt} {t : TS} (h : ∀ D σ H, t D σ H → ∃ t', PSs X e t' ∧ t' D σ H) : PSs X e t :=
  ⟨fun pins s σ H D I q => let ⟨_, d, q'⟩ := h D σ H q; d.run pins s σ H D I q'⟩
/-- x = e -/
theorem x_set {st : Stmt} {i : Nat} {e' : E} {te : TE} (hd : PS X st (tAsg (tV p Wx T call e') (gName i))) : PS X st (tX p Wx T call (.asg (.nm i) e')) :=
  PS.by fun D σ H ⟨α, ρ, g, S, E, q⟩ => by
    refine ⟨_, hd, α, ρ, g, S, E, ?_⟩
    simp only [ex] at q
    refine (ofE (Rp := RepV p) q E).imp fun x H1 _ ⟨α1, g1, w, k1, S1, E1, r, q1⟩ => ?_
    simp only [Tg.putS] at q1
    exact q1 α1 H1 _ (.refl _ _) S1 (E1.set i r)
/-- a, b = e -/
theorem x_tup {st : Stmt} {ts : List Nat} {e' : E} (hK : p.K = X.K) (h1 : PS X st (tAsg (tV p Wx T call e') (gTup X.K ts.length (gAll ts)))) (h2 : PS X st (tAsg (tV p Wx T call e') (gLst X.K ts.length (gAll ts)))) : PS X st (tX p Wx T call (.asg (.tp ts) e')) :=
  PS.by fun D σ H ⟨α, ρ, g, S, E, q⟩ => by
    simp only [ex] at q
    cases hr : ev T call e' ρ g with
    | err => rw [hr] at q; exact q.elim
    | exc c g1 =>
      refine ⟨_, h1, α, ρ, g, S, E, ?_⟩
      rw [hr] at q ⊢
      exact fun α1 H1 b s => q α1 H1 σ b s (E.mono b)
    | ok w g1 =>
      rw [hr] at q
      simp only [RS.of, Tg.putS] at q
      cases w with
      | tup ws =>
        refine ⟨_, h1, α, ρ, g, S, E, ?_⟩
        rw [hr]
        intro α1 H1 v k1 S1 r
        obtain ⟨a, vs, rfl, TT, rs⟩ := r.tup'
        cases hp : setAll ts ws ρ with
        | none => simp only [hp] at q; exact q.elim
        | some ρ' =>
          simp only [hp] at q
          exact ⟨a, vs, rfl, hK ▸ TT, by rw [← rs.length, setAll_len hp], gAll_go hp rs (E.mono k1) fun σ' s _ => q α1 H1 σ' k1 S1 s⟩
      | ref i =>
        refine ⟨_, h2, α, ρ, g, S, E, ?_⟩
        rw [hr]
        intro α1 H1 v k1 S1 r
        cases hl : lstOf (.ref i) g1 with
        | none => simp only [hl] at q; exact q.elim
        | some ws =>
          obtain ⟨a, vs, rfl, L, rs⟩ := lstOf_rep S1 r hl
          cases hp : setAll ts ws ρ with
          | none => simp only [hl, hp] at q; exact q.elim
          | some ρ' =>
            simp only [hl, hp] at q
            exact ⟨a, vs, rfl, hK ▸ L, by rw [← rs.length, setAll_len hp], gAll_go hp rs (E.mono k1) fun σ' s _ => q α1 H1 σ' k1 S1 s⟩
      | fl us =>
        refine ⟨_, h2, α, ρ, g, S, E, ?_⟩
        rw [hr]
        intro α1 H1 v k1 S1 r
        obtain ⟨a, vs, rfl, L, rs⟩ := r.fl'
        cases hp : setAll ts us ρ with
        | none => simp only [lstOf, hp] at q; exact q.elim
        | some ρ' =>
          simp only [lstOf, hp] at q
          exact ⟨a, vs, rfl, hK ▸ L.sq, by rw [← rs.length, setAll_len hp], gAll_go hp rs (E.mono k1) fun σ' s _ => q α1 H1 σ' k1 S1 s⟩
      | _ => simp only [lstOf] at q; exact q.elim
/-- o[i] = e -/
theorem x_put {st : Stmt} {a' b' e' : E} (hK : p.K = X.K) (h1 : PS X st (tAsg (tV p Wx T call e') (gSub (tV p Wx T call a') (tV p Wx T call b') rSetL))) (h2 : PS X st (sDPut (tV p Wx T call a') (tV p Wx T call b') (tV p Wx T call e'))) : PS X st (tX p Wx T call (.put a' b' e')) :=
  PS.by fun D σ H ⟨α, ρ, g, S, E, q⟩ => by
    simp only [ex] at q
    -- is it a list or a dict in the end?
    by_cases isd : ∃ w g1 i g2 y g3 kvs, ev T call e' ρ g = .ok w g1 ∧ ev T call a' ρ g1 = .ok (.ref i) g2 ∧ ev T call b' ρ g2 = .ok y g3 ∧ g3[i]? = some (.dct kvs)
    · refine ⟨_, h2, α, ρ, g, S, E, ?_⟩
      obtain ⟨w, g1, i, g2, y, g3, kvs, e1, e2, e3, e4⟩ := isd
      simp only [RS.of, e1, e2, e3, e4] at q ⊢
      intro α1 H1 v k1 S1 r1
      refine ⟨α1, ρ, g1, S1, E.mono k1, ?_⟩
      rw [e2]
      intro α2 H2 x k2 S2 r2
      refine ⟨α2, ρ, g2, S2, (E.mono k1).mono k2, ?_⟩
      rw [e3]
      intro α3 H3 yv k3 S3 r3
      obtain ⟨a, rfl, ea⟩ := r2.ref'
      have ea := k3.pre.get ea
      obtain ⟨kvs', hd, rr⟩ := S3.dict e4 ea
      replace q := postS.mono q ((k1.trans k2).trans k3)
      split at q
      · rename_i c
        obtain ⟨κ, hκ⟩ := fits_key c.1
        have hy := keyK_rep hκ r3
        subst hy
        have mu : Mut (H3 a) := by rw [hd]; exact trivial
        have rw1 := (r1.mono k2).mono k3
        have k : Kp α3 H3 α3 (upd H3 a (.dK (putK kvs' κ v))) := .write mu (List.mem_of_getElem? ea)
        refine ⟨a, _, rfl, .k hd (by rw [← rr.length]; exact Nat.lt_of_lt_of_le c.2 lim_line), ?_⟩
        exact q α3 _ σ k (S3.write e4 ea ⟨_, upd_same, (RepKV.put hκ rw1 rr).mono (.refl _) k.kp⟩) ((((E.mono k1).mono k2).mono k3).mono k)
      · exact q.elim
    · refine ⟨_, h1, α, ρ, g, S, E, ?_⟩
      cases e1 : ev T call e' ρ g with
      | err => rw [e1] at q; exact q.elim
      | exc c g1 => rw [e1] at q; exact fun α1 H1 b s => q α1 H1 σ b s (E.mono b)
      | ok w g1 =>
        simp only [RS.of, e1] at q
        intro α1 H1 v k1 S1 r1
        refine ⟨α1, ρ, g1, S1, E.mono k1, ?_⟩
        cases e2 : ev T call a' ρ g1 with
        | err => rw [e2] at q; exact q.elim
        | exc c g2 => rw [e2] at q; exact fun α2 H2 b s => q α2 H2 σ (k1.trans b) s ((E.mono k1).mono b)
        | ok x g2 =>
          simp only [e2] at q
          intro α2 H2 xv k2 S2 r2
          refine ⟨α2, ρ, g2, S2, (E.mono k1).mono k2, ?_⟩
          cases e3 : ev T call b' ρ g2 with
          | err => rw [e3] at q; exact q.elim
          | exc c g3 => rw [e3] at q; exact fun α3 H3 b s => q α3 H3 σ ((k1.trans k2).trans b) s (((E.mono k1).mono k2).mono b)
          | ok y g3 =>
            simp only [e3] at q
            intro α3 H3 yv k3 S3 r3
            replace q := postS.mono q ((k1.trans k2).trans k3)
            cases x with
            | ref i =>
              obtain ⟨a, rfl, ea⟩ := r2.ref'
              have ea := k3.pre.get ea
              simp only at q
              split at q
              · rename_i ws n e4
                split at q
                · rename_i j ej
                  obtain ⟨vs, hl, rs⟩ := S3.lst e4 ea
                  have mu : Mut (H3 a) := by rw [hl]; exact trivial
                  have rw1 := (r1.mono k2).mono k3
                  have k : Kp α3 H3 α3 (upd H3 a (.lst (vs.set j v))) := .write mu (List.mem_of_getElem? ea)
                  refine ⟨a, vs, n, j, rfl, r3.int', hl, by rw [← rs.length]; exact ej, ?_⟩
                  exact q α3 _ σ k (S3.write e4 ea ⟨_, upd_same, (RepVs.set rw1 j rs).mono k⟩) ((((E.mono k1).mono k2).mono k3).mono k)
                · exact q.elim
              · rename_i e4
                exact (isd ⟨w, g1, i, g2, _, g3, _, e1, e2, e3, e4⟩).elim
              · exact q.elim
            | _ => exact q.elim
theorem putL_go {a b : E} {w : W} {ρ : Env} {g : G} {k : G → RS} {α : List Addr} {H : Hp} {σ : St} {v : V} {D : Ends} {Q : St → Hp → Prop} (S : Sim p α g H) (E : SimSt p α H ρ σ) (r : RepV p α H w v) (q : postS p Wx (putL T call a b w ρ g k) α H D)
    (kk : ∀ α2 g2 H', Kp α H α2 H' → Sim p α2 g2 H' → SimSt p α2 H' ρ σ → postS p Wx (k g2) α2 H' D → Q σ H') : gSub (tV p Wx T call a) (tV p Wx T call b) rSetL v σ H Q := by
  refine ⟨α, ρ, g, S, E, ?_⟩
  unfold putL at q
  refine (ofE (Rp := RepV p) q E).imp fun o H1 _ ⟨α1, g1, x, k1, S1, E1, r1, q1⟩ => ⟨α1, ρ, g1, S1, E1, ?_⟩
  refine (ofE (Rp := RepV p) q1 E1).imp fun i H2 _ ⟨α2, g2, y, k2, S2, E2, r2, q2⟩ => ?_
  split at q2
  · rename_i p0 i0
    split at q2
    · rename_i ws e
      split at q2
      · rename_i j ej
        obtain ⟨a0, rfl, ea⟩ := r1.ref'
        have ea := k2.pre.get ea
        obtain ⟨vs, hl, rs⟩ := S2.lst e ea
        have mu : Mut (H2 a0) := by rw [hl]; exact trivial
        have rw1 := (r.mono k1).mono k2
        have kw : Kp α2 H2 α2 (upd H2 a0 (.lst (vs.set j v))) := .write mu (List.mem_of_getElem? ea)
        exact ⟨a0, vs, _, j, rfl, r2.int', hl, by rw [← rs.length]; exact ej, kk α2 _ _ ((k1.trans k2).trans kw) (S2.write (o' := .lst (ws.set j w)) e ea ⟨_, upd_same, (RepVs.set rw1 j rs).mono kw⟩) (E2.mono kw) (postS.mono q2 kw)⟩
      · exact q2.elim
    · exact q2.elim
  · exact q2.elim
/-- a[b], c[d] = (x, y) -/
theorem x_swap {st : Stmt} {a b c d x y : E} (h1 : PS X st (tAsg (tTup (tL p Wx T call (.cons x (.cons y .nil)))) (gTup X.K 2 (gCons (gSub (tV p Wx T call a) (tV p Wx T call b) rSetL) (gCons (gSub (tV p Wx T call c) (tV p Wx T call d) rSetL) gNil))))) : PS X st (tX p Wx T call (.swap a b c d x y)) :=
  PS.by fun D σ H ⟨α, ρ, g, S, E, q⟩ => by
    refine ⟨_, h1, α, ρ, g, S, E, ?_⟩
    simp only [ex] at q
    refine (ofE (Rp := RepVs p) q E).imp fun xs H1 _ ⟨α1, g1, ws, k1, S1, E1, rs, q1⟩ => ?_
    rcases ws with _ | ⟨w1, _ | ⟨w2, _ | ⟨w3, ws⟩⟩⟩
    · exact q1.elim
    · exact q1.elim
    · obtain ⟨v1, q', rfl, r1, rs⟩ := rs.cons'
      obtain ⟨v2, q'', rfl, r2, rs⟩ := rs.cons'
      have := rs.nil'
      subst this
      refine ⟨sizeLine_lim (show 2 ≤ lim by decide), fun t ht => ?_⟩
      have kj : Kp α1 H1 α1 (upd H1 t (.tup [v1, v2])) := .junk ht
      refine ⟨t, [v1, v2], rfl, .inl (.inl upd_same), rfl, v1, [v2], rfl, ?_⟩
      refine putL_go (S1.junk ht) (E1.mono kj) (r1.mono kj) (postS.mono q1 kj) fun α2 g2 H2 k2 S2 E2 q2 => ⟨v2, [], rfl, ?_⟩
      exact putL_go S2 E2 ((r2.mono kj).mono k2) q2 fun α3 g3 H3 k3 S3 E3 q3 => ⟨rfl, q3 α3 H3 σ (.refl _ _) S3 E3⟩
    · exact q1.elim
/-- o.f = e -/
theorem RepFs.put {f : Nm} {w : W} {v : V} (rw_ : RepV p α H w v) : ∀ {fs : List (Nm × W)} {fs' : List (Str × V)}, RepFs p α H fs fs' → RepFs p α H (putFW f w fs) (putF (nmS f) v fs')
  | [], _, h => by
    have : _ = [] := h
    subst this
    exact ⟨v, [], rfl, rw_, rfl⟩
  | (a, w') :: r, _, ⟨v', q, e, rv, rr⟩ => by
    subst e
    by_cases ha : a = f
    · subst ha
      simp only [putFW, putF, if_true]
      exact ⟨v, q, rfl, rw_, rr⟩
    · have hb : ¬ nmS a = nmS f := fun e => ha (by
        have := congrArg (fun z : Str => z.cps.toList) e
        simpa using this)
      simp only [putFW, putF, if_neg ha, if_neg hb]
      exact ⟨v', _, rfl, rv, RepFs.put rw_ rr⟩
theorem RepFs.length : ∀ {fs : List (Nm × W)} {fs' : List (Str × V)}, RepFs p α H fs fs' → fs.length = fs'.length
  | [], _, h => by
    have : _ = [] := h
    subst this; rfl
  | (a, w') :: r, _, ⟨v', q, e, rv, rr⟩ => by subst e; simp [RepFs.length rr]
theorem x_setf {st : Stmt} {o' e' : E} {f : Nm} (hK : p.K = X.K) (hf : FldOk p f) (h1 : PS X st (sFld X.K (tV p Wx T call o') (tV p Wx T call e') (nmS f))) : PS X st (tX p Wx T call (.setf o' f e')) :=
  PS.by fun D σ H ⟨α, ρ, g, S, E, q⟩ => by
    refine ⟨_, h1, α, ρ, g, S, E, ?_⟩
    simp only [ex] at q
    refine (ofE (Rp := RepV p) q E).imp fun v H1 _ ⟨α1, g1, w, k1, S1, E1, r1, q1⟩ => ⟨α1, ρ, g1, S1, E1, ?_⟩
    refine (ofE (Rp := RepV p) q1 E1).imp fun x H2 _ ⟨α2, g2, u, k2, S2, E2, r2, q2⟩ => ?_
    split at q2
    · rename_i i
      obtain ⟨a, rfl, ea⟩ := r2.ref'
      split at q2
      · rename_i c fs e4
        split at q2
        · rename_i hl
          obtain ⟨dx, fs', h1, hc, rf⟩ := S2.ins e4 ea
          obtain ⟨c1, c2⟩ := hf c hc
          have mu : Mut (H2 a) := by rw [h1]; exact trivial
          have k : Kp α2 H2 α2 (upd H2 a (.ins (p.ca c) dx (putF (nmS f) v fs'))) := .write mu (List.mem_of_getElem? ea)
          refine ⟨a, p.ca c, dx, fs', rfl, h1, hK ▸ c1, hK ▸ c2, by rw [← rf.length]; omega, ?_⟩
          exact q2 α2 _ σ k (S2.write e4 ea ⟨dx, _, upd_same, hc, (RepFs.put (r1.mono k2) rf).mono (.refl _) k.kp⟩) (E2.mono k)
        · exact q2.elim
      · exact q2.elim
    · exact q2.elim
/-- x op= e -/
theorem x_aug {st : Stmt} {i : Nat} {o : Bop} {e' : E} (ti : TIp) (ho : ∀ a b z H Q, (match o with | .add => z = a + b | .sub => z = a - b | _ => False) → Q (.int z) H → ti (.int a) (.int b) H Q) (h1 : PS X st (tAug i (tV p Wx T call e') ti)) : PS X st (tX p Wx T call (.aug i o e')) :=
  PS.by fun D σ H ⟨α, ρ, g, S, E, q⟩ => by
    refine ⟨_, h1, ?_⟩
    simp only [ex] at q
    split at q
    · rename_i x ex
      obtain ⟨v, e1, r1⟩ := E.at_ i x ex
      refine ⟨v, e1, α, ρ, g, S, E, ?_⟩
      refine (ofE (Rp := RepV p) q E).imp fun y H1 _ ⟨α1, g1, u, k1, S1, E1, r2, q1⟩ => ?_
      cases x with
      | int a =>
        cases u with
        | int b =>
          rw [r1.int', r2.int']
          cases o <;> simp only at q1 <;> first | exact q1.elim | skip
          · exact ho a b _ H1 _ rfl (q1 α1 H1 _ (.refl _ _) S1 (E1.set i .int))
          · exact ho a b _ H1 _ rfl (q1 α1 H1 _ (.refl _ _) S1 (E1.set i .int))
        | _ => exact q1.elim
      | _ => exact q1.elim
    · exact q.elim
/-- o.f op= e -/
theorem x_augf {st : Stmt} {o : Bop} {a' e' : E} {f : Nm} (rd : V → V → Hp → VK → Prop) (ho : ∀ a b z H Q, (match o with | .add => z = a + b | .sub => z = a - b | _ => False) → Q (.int z) H → rd (.int a) (.int b) H Q) (hK : p.K = X.K) (hf : FldOk p f)
    (h1 : PS X st (sFldAug X.K (tV p Wx T call a') (tV p Wx T call e') rd (nmS f))) : PS X st (tX p Wx T call (.augf a' f o e')) :=
  PS.by fun D σ H ⟨α, ρ, g, S, E, q⟩ => by
    refine ⟨_, h1, α, ρ, g, S, E, ?_⟩
    simp only [ex] at q
    refine (ofE (Rp := RepV p) q E).imp fun v H1 _ ⟨α1, g1, w, k1, S1, E1, r1, q1⟩ => ?_
    split at q1
    · rename_i i
      obtain ⟨a, rfl, ea⟩ := r1.ref'
      split at q1
      · rename_i c fs e4
        obtain ⟨dx, fs', h1, hc, rf⟩ := S1.ins e4 ea
        obtain ⟨c1, c2⟩ := hf c hc
        rcases RepFs.get (f := f) rf with ⟨a1, a2⟩ | ⟨w', v', a1, a2, a3⟩
        · rw [a1] at q1; exact q1.elim
        · simp only [a1] at q1
          refine ⟨a, p.ca c, dx, fs', v', rfl, h1, hK ▸ c1, hK ▸ c2, a2, α1, ρ, g1, S1, E1, ?_⟩
          refine (ofE (Rp := RepV p) q1 E1).imp fun y H2 _ ⟨α2, g2, u, k2, S2, E2, r2, q2⟩ => ?_
          have ea2 := k2.pre.get ea
          cases w' with
          | int i1 =>
            cases u with
            | int j1 =>
              rw [a3.int', r2.int']
              cases e5 : g2[i]? with
              | none => rw [e5] at q2; exact q2.elim
              | some ob =>
                rw [e5] at q2
                cases ob with
                | ins c' fs2 =>
                  obtain ⟨dx2, fs2', h2, hc2, rf2⟩ := S2.ins e5 ea2
                  have fin : ∀ z : Int, c' = c → fs2.length < 900 → postS p Wx (.go .nx ρ (g2.set i (.ins c' (putFW f (.int z) fs2)))) α2 H2 D →
                      ∃ dx' fs', H2 a = some (.ins (p.ca c) dx' fs') ∧ fs'.length < 1000 ∧ D.nx σ (upd H2 a (.ins (p.ca c) dx' (putF (nmS f) (.int z) fs'))) := by
                    intro z hcc hl q3
                    subst hcc
                    have mu : Mut (H2 a) := by rw [h2]; exact trivial
                    have k : Kp α2 H2 α2 (upd H2 a (.ins (p.ca c') dx2 (putF (nmS f) (.int z) fs2'))) := .write mu (List.mem_of_getElem? ea2)
                    refine ⟨dx2, fs2', h2, by rw [← rf2.length]; omega, ?_⟩
                    exact q3 α2 _ σ k (S2.write e5 ea2 ⟨dx2, _, upd_same, hc, (RepFs.put .int rf2).mono (.refl _) k.kp⟩) (E2.mono k)
                  cases o <;> simp only at q2 <;> first | exact q2.elim | skip
                  · split at q2
                    · rename_i cc; exact ho i1 j1 _ H2 _ rfl (fin _ cc.1 cc.2 q2)
                    · exact q2.elim
                  · split at q2
                    · rename_i cc; exact ho i1 j1 _ H2 _ rfl (fin _ cc.1 cc.2 q2)
                    · exact q2.elim
                | _ => exact q2.elim
            | _ => exact q2.elim
          | _ => cases u <;> exact q2.elim
      · exact q1.elim
    · exact q1.elim
/-- if -/
theorem x_ifs {c : Expr} {a b : List Stmt} {c' : E} {a' b' : SL} {pos : Pos} (h0 : PT X c (tQ p Wx T call c')) (h1 : PSs X a (tXs p Wx T call a')) (h2 : PSs X b (tXs p Wx T call b')) : PS X (.If c a b pos) (tX p Wx T call (.ifs c' a' b')) :=
  PS.by fun D σ H ⟨α, ρ, g, S, E, q⟩ => by
    refine ⟨_, ps_if h0 h1 h2, α, ρ, g, S, E, ?_⟩
    simp only [ex] at q
    refine (ofE (Rp := TB) q E).imp fun x H1 _ ⟨α1, g1, w, k1, S1, E1, r, q1⟩ => ?_
    have r : x = w := r
    subst r
    cases x with
    | true => rw [if_pos rfl]; exact ⟨α1, ρ, g1, S1, E1, q1⟩
    | false => rw [if_neg (by decide)]; exact ⟨α1, ρ, g1, S1, E1, q1⟩
/-- while -/
theorem x_whl {c : Expr} {body : List Stmt} {c' : E} {b' : SL} {pos : Pos} (hp : PassesOwn (model X.prog X.w) X.A X.env X.xe) (h0 : PT X c (tQ p Wx T call c')) (h1 : PSs X body (tXs p Wx T call b')) : PS X (.While c body [] pos) (tX p Wx T call (.whl c' b')) :=
  PS.by fun D σ H ⟨α, ρ, g, S, E, q⟩ => by
    refine ⟨_, ps_while hp h0 h1, ?_⟩
    simp only [ex] at q
    refine ⟨fun m σ H => tS p Wx (Dl.whl (tst T call c') (exs T call b') m) D σ H, ⟨FUEL, α, ρ, g, S, E, q⟩, ?_⟩
    rintro m σ H ⟨α, ρ, g, S, E, q⟩
    cases m with
    | zero => exact q.elim
    | succ m =>
      simp only [Dl.whl] at q
      refine ⟨α, ρ, g, S, E, ?_⟩
      refine (ofE (Rp := TB) q E).imp fun x H1 _ ⟨α1, g1, w, k1, S1, E1, r, q1⟩ => ?_
      have r : x = w := r
      subst r
      cases x with
      | false => rw [if_neg (by decide)]; exact q1 α1 H1 σ (.refl _ _) S1 E1
      | true =>
        rw [if_pos rfl]
        refine ⟨fun σ H => tS p Wx (Dl.whl (tst T call c') (exs T call b') m) D σ H, fun σ' H' h => ⟨m, Nat.lt_succ_self m, h⟩, α1, ρ, g1, S1, E1, ?_⟩
        simp only at q1
        cases hb : exs T call b' ρ g1 with
        | err => rw [hb] at q1; exact q1
        | exc c ρ2 g2 => rw [hb] at q1; exact q1
        | go f ρ2 g2 =>
          rw [hb] at q1
          cases f with
          | nx => exact fun α2 H2 σ2 k2 S2 E2 => ⟨α2, ρ2, g2, S2, E2, postS.mono q1 k2⟩
          | cnt => exact fun α2 H2 σ2 k2 S2 E2 => ⟨α2, ρ2, g2, S2, E2, postS.mono q1 k2⟩
          | brk => exact q1
          | ret w => exact q1
/-- for -/
theorem x_for {tg iter : Expr} {body : List Stmt} {t : Tg} {s' : Src} {b' : SL} {pos : Pos} (hK : p.K = X.K) (hp : PassesOwn (model X.prog X.w) X.A X.env X.xe) (hc : X.calm = true) (hi : PI X tg iter (tC p Wx T call s')) (hg : PG X tg (gT p.K t)) (hb : PSs X body (tXs p Wx T call b'))
    (hs : ∀ x, foldedSetIterable iter X.env x = pure x) : PS X (.For tg iter body [] pos) (tX p Wx T call (.for_ t s' b')) :=
  PS.by fun D σ H ⟨α, ρ, g, S, E, q⟩ => by
    refine ⟨_, ps_for hp hc hi hg hb hs, α, ρ, g, S, E, ?_⟩
    simp only [ex] at q
    refine (ofE (Rp := RepC p) q E).imp fun J H1 _ ⟨α1, g1, cur, k1, S1, E1, rc, q1⟩ => ?_
    -- one turn, whatever the walk
    have turn : ∀ (rest : Nat → Nat → Env → G → RS), (∀ i m ρ g, cur.at_ i g = some none → ∀ α H, postS p Wx (rest i m ρ g) α H D → rest i m ρ g = .go .nx ρ g) → (∀ i m ρ g, cur.at_ i g = none → ∀ α H, postS p Wx (rest i m ρ g) α H D → False) →
        (∀ i m ρ g w, cur.at_ i g = some (some w) → ∀ α H, postS p Wx (rest i m ρ g) α H D → ∃ m' ρ', m = m' + 1 ∧ t.put w ρ = some ρ' ∧ rest i m ρ g = match exs T call b' ρ' g with
          | .go .nx ρ2 g2 | .go .cnt ρ2 g2 => rest (i + 1) m' ρ2 g2
          | .go .brk ρ2 g2 => .go .nx ρ2 g2
          | r => r) → (∃ m0, postS p Wx (rest 0 m0 ρ g1) α1 H1 D) →
        ∃ Wn : Nat → Nat → St → Hp → Prop, (∃ m, Wn 0 m σ H1) ∧ ∀ i m σ H, Wn i m σ H →
          (J.stop i H ∧ D.nx σ H) ∨ (J.go i H ∧ ∃ N : St → Hp → Prop, (∀ σ' H', N σ' H' → ∃ m', m' < m ∧ Wn (i + 1) m' σ' H') ∧ ∀ x H', J.yld i H x H' → gT p.K t x σ H' fun σ2 H2 => tXs p Wx T call b' { D with nx := N, ct := N, bk := D.nx } σ2 H2) := by
      intro rest h1 h2 h3 ⟨m0, q0⟩
      refine ⟨fun i m σ H => ∃ α ρ g, Kp α1 H1 α H ∧ Sim p α g H ∧ SimSt p α H ρ σ ∧ postS p Wx (rest i m ρ g) α H D, ⟨m0, α1, ρ, g1, .refl _ _, S1, E1, q0⟩, ?_⟩
      rintro i m σ H ⟨α, ρ, g, k, S, E, q⟩
      obtain ⟨c1, c2⟩ := rc α g H i k S
      cases hc : cur.at_ i g with
      | none => exact (h2 i m ρ g hc α H q).elim
      | some o =>
        cases o with
        | none =>
          rw [h1 i m ρ g hc α H q] at q
          exact .inl ⟨c1 hc, q α H σ (.refl _ _) S E⟩
        | some w =>
          obtain ⟨m', ρ', rfl, e1, e2⟩ := h3 i m ρ g w hc α H q
          obtain ⟨d1, d2⟩ := c2 w hc
          rw [e2] at q
          refine .inr ⟨d1, fun σ H => ∃ α ρ g, Kp α1 H1 α H ∧ Sim p α g H ∧ SimSt p α H ρ σ ∧ postS p Wx (rest (i + 1) m' ρ g) α H D, fun σ' H' h => ⟨m', Nat.lt_succ_self _, h⟩, fun x H' y => ?_⟩
          obtain ⟨k2, S2, r2⟩ := d2 x H' y
          refine gT_go (vs := t.slots) e1 r2 (E.mono k2) (fun _ h => h) fun σ2 E2 _ => ⟨α, ρ', g, S2, E2, ?_⟩
          replace q := postS.mono q k2
          cases hb : exs T call b' ρ' g with
          | err => rw [hb] at q; exact q
          | exc c ρ2 g2 => rw [hb] at q; exact q
          | go f ρ2 g2 =>
            rw [hb] at q
            cases f with
            | nx => exact fun α3 H3 σ3 k3 S3 E3 => ⟨α3, ρ2, g2, (k.trans k2).trans k3, S3, E3, postS.mono q k3⟩
            | cnt => exact fun α3 H3 σ3 k3 S3 E3 => ⟨α3, ρ2, g2, (k.trans k2).trans k3, S3, E3, postS.mono q k3⟩
            | brk => exact q
            | ret w => exact q
    have liv : postS p Wx (forL t (exs T call b') cur FUEL 0 ρ g1) α1 H1 D → _ := fun q1 => turn (fun i m ρ g => forL t (exs T call b') cur m i ρ g) (fun i m ρ g hc α H q => by
        cases m with
        | zero => exact q.elim
        | succ m => simp only [forL, hc])
      (fun i m ρ g hc α H q => by
        cases m with
        | zero => exact q.elim
        | succ m => simp only [forL, hc] at q; exact q.elim)
      (fun i m ρ g w hc α H q => by
        cases m with
        | zero => exact q.elim
        | succ m =>
          simp only [forL, hc] at q ⊢
          cases hp : t.put w ρ with
          | none => rw [hp] at q; exact q.elim
          | some ρ' => exact ⟨m, ρ', rfl, rfl, rfl⟩) ⟨FUEL, q1⟩
    cases cur with
    | vals ws =>
      refine turn (fun i m ρ g => if m = ws.length - i ∧ i ≤ ws.length then forV t (exs T call b') (ws.drop i) ρ g else .err) (fun i m ρ g hc α H q => ?_) (fun i m ρ g hc α H q => ?_) (fun i m ρ g w hc α H q => ?_) ⟨ws.length, by simpa using q1⟩
      · simp only [Cur.at_, Option.some.injEq] at hc
        split at q
        · rename_i hh
          rw [if_pos hh, List.drop_eq_nil_of_le (List.getElem?_eq_none_iff.mp hc)]
          rfl
        · exact q.elim
      · simp [Cur.at_] at hc
      · simp only [Cur.at_, Option.some.injEq] at hc
        split at q
        · rename_i hh
          obtain ⟨hlt, hw'⟩ := List.getElem?_eq_some_iff.mp hc
          have hdr : ws.drop i = w :: ws.drop (i + 1) := by rw [List.drop_eq_getElem_cons hlt, hw']
          rw [if_pos hh]
          rw [hdr] at q ⊢
          simp only [forV] at q ⊢
          cases hp : t.put w ρ with
          | none => rw [hp] at q; exact q.elim
          | some ρ' =>
            refine ⟨ws.length - (i + 1), ρ', by omega, rfl, ?_⟩
            simp only [show (ws.length - (i + 1) = ws.length - (i + 1) ∧ i + 1 ≤ ws.length) from ⟨rfl, hlt⟩, and_self, if_true]
            all_goals (rcases exs T call b' ρ' g with ⟨f, _, _⟩ | _ | _ <;> first | rfl | (cases f <;> rfl))
        · exact q.elim
    | live i => exact liv q1
    | lenum i => exact liv q1
    | lzip i j => exact liv q1
theorem x_ret {e : Expr} {e' : E} {pos : Pos} (h : PE X e (tV p Wx T call e')) : PS X (.Return (some e) pos) (tX p Wx T call (.ret e')) :=
  PS.by fun D σ H ⟨α, ρ, g, S, E, q⟩ => by
    refine ⟨_, ps_ret h, α, ρ, g, S, E, ?_⟩
    simp only [ex] at q
    exact (ofE (Rp := RepV p) q E).imp fun x H1 _ ⟨α1, g1, w, k1, S1, E1, r, q1⟩ => q1 α1 H1 x (.refl _ _) S1 r
theorem x_retn {pos : Pos} : PS X (.Return none pos) (tX p Wx T call .retn) :=
  PS.by fun D σ H ⟨α, ρ, g, S, E, q⟩ => ⟨_, ps_retN, by simp only [ex] at q; exact q α H _ (.refl _ _) S .non⟩
theorem x_expr {st : Stmt} {e' : E} (h : PS X st (tDrop (tV p Wx T call e'))) : PS X st (tX p Wx T call (.expr e')) :=
  PS.by fun D σ H ⟨α, ρ, g, S, E, q⟩ => by
    refine ⟨_, h, α, ρ, g, S, E, ?_⟩
    simp only [ex] at q
    exact (ofE (Rp := RepV p) q E).imp fun x H1 _ ⟨α1, g1, w, k1, S1, E1, r, q1⟩ => q1 α1 H1 σ (.refl _ _) S1 E1
theorem x_brk {pos : Pos} : PS X (.Break pos) (tX p Wx T call .brk) := PS.by fun D σ H ⟨α, ρ, g, S, E, q⟩ => ⟨_, ps_break, by simp only [ex] at q; exact q α H σ (.refl _ _) S E⟩
theorem x_cnt {pos : Pos} : PS X (.Continue pos) (tX p Wx T call .cnt) := PS.by fun D σ H ⟨α, ρ, g, S, E, q⟩ => ⟨_, ps_continue, by simp only [ex] at q; exact q α H σ (.refl _ _) S E⟩
theorem x_pass {pos : Pos} : PS X (.Pass pos) (tX p Wx T call .pass) := PS.by fun D σ H ⟨α, ρ, g, S, E, q⟩ => ⟨_, ps_pass, by simp only [ex] at q; exact q α H σ (.refl _ _) S E⟩
theorem x_rais {e : Expr} {c : Nat} {pos : Pos} (hc : X.calm = true) (tk : Takes X Wx) (h : PMk X e (fun _ H Q => Q (.ref (p.xa c)) none H)) : PS X (.Raise (some e) none pos) (tX p Wx T call (.rais c)) :=
  PS.by fun D σ H ⟨α, ρ, g, S, E, q⟩ => ⟨_, ps_raise hc tk h, by simp only [ex] at q; exact q α H σ (.refl _ _) S E⟩
end
end Dl

/-! DlZ: dict comprehensions, sorted of a dict. -/
namespace Dl
open PySem L2
/-- name = {..} on one line, the name a local -/
theorem ps_setDc {X : Cx} {i : Nat} {y : Str} {py : Pos} {kx vx tg iter : Expr} {ifs : List Expr} {scope : Scope} {own : List (Str × Nat)} {pos spos : Pos} {wi : TI} {g : TG} {tt : TT} {tk tv : TE} (hc : X.calm = true) (hN : X.N.Nodup) (hy : X.N[i]? = some y) (hyl : X.env.scope.names.lookup y = some .local)
    (hsw : swapsWith (.DictComp kx vx [⟨tg, iter, ifs, 0⟩] scope pos) (some (.Name y py)) spos.line X.env = pure true) (hi : PI X tg iter wi) (ok : BlkOk X.N X.env.scope scope own)
    (hg : ∀ (s : Shared) (H : Hp) (C : Addr) (cl : List (Str × Addr)) (fp : List Addr), PG (X.blk s H scope (compEnvC scope cl C X.env) fp) tg g) (ht : ∀ (s : Shared) (H : Hp) (C : Addr) (cl : List (Str × Addr)) (fp : List Addr), PTs (X.blk s H scope (compEnvC scope cl C X.env) fp) ifs tt)
    (hk : ∀ (s : Shared) (H : Hp) (C : Addr) (cl : List (Str × Addr)) (fp : List Addr), PE (X.blk s H scope (compEnvC scope cl C X.env) fp) kx tk)
    (he : ∀ (s : Shared) (H : Hp) (C : Addr) (cl : List (Str × Addr)) (fp : List Addr), PE (X.blk s H scope (compEnvC scope cl C X.env) fp) vx tv) (hs : ∀ x, foldedSetIterable iter X.env x = pure x := by intro _; rfl) :
    PS X (.Assign [.Name y py] (.DictComp kx vx [⟨tg, iter, ifs, 0⟩] scope pos) spos) (tAsg (tDc wi g tt tk tv (own.map (·.2))) (gName i)) := by
  refine ⟨fun pins s σ H D I h => ?_⟩
  rw [exec_Assign_Name_used _ _ _ _ hsw]
  refine wpAny_bind (wpAny_standAt (wpAny_bind ?_))
  show wpAny _ X.A (do let _ ← comprehension (.DictComp kx vx [⟨tg, iter, ifs, 0⟩] scope pos) scope X.env (firstIterPos [⟨tg, iter, ifs, 0⟩] pos) newDict false (eval iter X.env) (some (assign (.Name y py) X.env))) _ _ s
  have h : tDc wi g tt tk tv (own.map (·.2)) σ H (fun x H1 => gName i x σ H1 D.nx) := h
  refine wpAny_bind (thn (dc_core (Qf := fun _ s' => SP X pins D .next s') hc hN I hi ok hg ht hk he hs h fun L C s' m H' I' q hn f => ?_) fun _ s' hq => wpAny_pure (wpAny_pure hq))
  show wpAny _ _ (assign (.Name y py) X.env (.ref L)) _ _ _
  refine wpAny_assign_Name (store_ok2 (v := V.ref L) I' hN hy (.inl hyl) rfl (fun s2 I2 ⟨a, sb, ha⟩ => ?_) (.inr hyl))
  obtain ⟨f0, f1, f2, f3, f4, f5⟩ := f
  have haC : C ≠ a := by
    rcases ha with z | z
    · rw [z]; exact f1
    · exact fun e => f4 y a z e.symm
  refine ⟨m, hn.sameBut sb haC, fun h3 sb3 => ?_⟩
  exact ⟨_, H', I2.turned (t' := s2.toks) (fun b o hb e => (sb3.2 b hb).trans e) f0 f1 f3 f4 f5, q⟩
section
variable {p : Px} {Wx : WX} {X : Cx} {T : Tbl} {call : CallF}
theorem putD_len (kvs : List (W × W)) (k v : W) : (putD kvs k v).length ≤ kvs.length + 1 := by
  unfold putD
  split
  · simp
  · simp
/-- the entries -/
def dits (T : Tbl) (call : CallF) (vs : List Nat) (t : Tg) (s : Src) (c k v : E) (ρ : Env) (g : G) : R (List (W × W)) := (src T call s ρ g).bind fun cur g1 => match cur with
  | .vals ws => if ws.length ≤ lim then dcV t (tst T call c) (ev T call k) (ev T call v) (wipeE ρ vs) ws [] g1 else .err
  | cur => dcL t (tst T call c) (ev T call k) (ev T call v) (wipeE ρ vs) cur FUEL 0 [] g1
theorem ev_dcomp {vs : List Nat} {t : Tg} {s : Src} {c k v : E} (ρ : Env) (g : G) : ev T call (.dcomp vs t s c k v) ρ g = (dits T call vs t s c k v ρ g).bind fun kvs g2 => .ok (.ref g2.length) (g2 ++ [.dct kvs]) := by
  simp only [ev, dits]
  cases src T call s ρ g with
  | ok cur g1 => cases cur <;> rfl
  | exc _ _ => rfl
  | err => rfl
/-- a new dict at D, told or not -/
def postD (p : Px) (Wx : WX) (r : R (List (W × W))) (α : List Addr) (H : Hp) (σ : St) (Q : VK) : Prop := match r with
  | .ok ws g' => ∀ α' H' D vs, Kp α H α' H' → Sim p α' g' H' → H' D = some (.dK vs) → D ∉ α' → Kp α H (α' ++ [D]) H' → RepKV p α' H' ws vs → Q (.ref D) H'
  | .exc c g' => ∀ α' H', Kp α H α' H' → Sim p α' g' H' → Wx (.ref (p.xa c)) none σ H'
  | .err => False
def tD (p : Px) (Wx : WX) (f : Env → G → R (List (W × W))) : TE := fun σ H Q => ∃ α ρ g, Sim p α g H ∧ SimSt p α H ρ σ ∧ postD p Wx (f ρ g) α H σ Q
theorem postD.mono {r : R (List (W × W))} {α α' : List Addr} {H H' : Hp} {σ : St} {Q : VK} (h : postD p Wx r α H σ Q) (k : Kp α H α' H') : postD p Wx r α' H' σ Q := by
  cases r with
  | ok w g => exact fun α2 H2 D vs b c d e f z => h α2 H2 D vs (k.trans b) c d e (k.trans f) z
  | exc c g => exact fun α2 H2 b c => h α2 H2 (k.trans b) c
  | err => exact h
theorem Sim.adoptD {α : List Addr} {g : G} {H : Hp} {D : Addr} {o : Ob} (s : Sim p α g H) (n : D ∉ α) (r : RepO p (α ++ [D]) H D o) : Sim p (α ++ [D]) (g ++ [o]) H := by
  refine ⟨by simp [s.len], fun i o' a e1 e2 => ?_, ?_⟩
  · by_cases hi : i < g.length
    · rw [List.getElem?_append_left hi] at e1
      rw [List.getElem?_append_left (by rw [s.len]; exact hi)] at e2
      exact (s.ob i o' a e1 e2).mono ⟨[D], rfl⟩ (.refl _) rfl
    · have : i = g.length := by
        have := (List.getElem?_eq_some_iff.mp e1).1
        simp at this
        omega
      subst this
      rw [List.getElem?_append_right (Nat.le_refl _)] at e1
      rw [← s.len, List.getElem?_append_right (Nat.le_refl _)] at e2
      simp at e1 e2
      subst e1 e2
      exact r
  · rw [List.nodup_append]
    refine ⟨s.nd, by simp, fun a ha b hb => ?_⟩
    have : b = D := by simpa using hb
    subst this
    rintro rfl
    exact n ha
theorem allocD_go {f : Env → G → R (List (W × W))} {σ : St} {H : Hp} {Q : VK} (h : tE p Wx (fun ρ g => (f ρ g).bind fun ws g2 => .ok (.ref g2.length) (g2 ++ [.dct ws])) σ H Q) : tD p Wx f σ H Q := by
    obtain ⟨α, ρ, g, S, E, q⟩ := h
    refine ⟨α, ρ, g, S, E, ?_⟩
    simp only at q
    cases hr : f ρ g with
    | err => rw [hr] at q; exact q
    | exc c g1 => rw [hr] at q; exact q
    | ok ws g1 =>
      rw [hr] at q
      intro α1 H1 D vs k1 S1 hD nD k2 rs
      exact q (α1 ++ [D]) H1 (.ref D) k2 (S1.adoptD nD ⟨vs, hD, rs.mono ⟨[D], rfl⟩ (.refl _)⟩) (.ref (by rw [← S1.len]; simp))
/-- one turn -/
theorem dc_turn {t : Tg} {c ke ve : E} {α αs : List Addr} {H Hs : Hp} {D : Addr} {acc : List (W × W)} {vs : List (Key × V)} {w : W} {x : V} {ρ ρ' : Env} {σ : St} {g : G} {Q : VK} {own : List Nat} {Nx : Hp → Prop}
    {tt : TT} {tk tv : TE} (htt : tt = tB p WF (tst T call c)) (htk : tk = tE p WF (ev T call ke)) (htv : tv = tE p WF (ev T call ve)) (k0 : List (W × W) → G → R (List (W × W)))
    (e : t.put w (wipeE ρ own) = some ρ') (r : RepV p α H w x) (S : Sim p α g H) (E : SimSt p α H (wipeE ρ own) (wipe σ own)) (hv : ∀ i ∈ t.slots, i ∈ own) (hD : H D = some (.dK vs)) (nD : D ∉ α) (ra : RepKV p α H acc vs) (k : Kp αs Hs α H) (hs : Hs D = none) (hacc : acc.length + 1 ≤ lim)
    (q : postD p Wx ((tst T call c ρ' g).nx.bind fun b g1 => match b with
        | false => k0 acc g1
        | true => (ev T call ke ρ' g1).nx.bind fun x g2 => (ev T call ve ρ' g2).nx.bind fun y g3 => if fits [] x then k0 (putD acc x y) g3 else .err) αs Hs σ Q)
    (hN : ∀ α' g' H' acc' vs', acc'.length ≤ acc.length + 1 → Kp αs Hs α' H' → Sim p α' g' H' → H' D = some (.dK vs') → D ∉ α' → RepKV p α' H' acc' vs' → postD p Wx (k0 acc' g') αs Hs σ Q → Nx H') :
    gT p.K t x (wipe σ own) H fun σ2 H2 => wipe σ2 own = wipe σ own ∧ tt σ2 H2 fun b H3 =>
      if b = true then tk σ2 H3 fun y H4 => tv σ2 H4 fun z H5 => ∃ kvs κ, y = kV κ ∧ H5 D = some (.dK kvs) ∧ kvs.length < sizeLine ∧ Nx (upd H5 D (.dK (putK kvs κ z))) else Nx H3 := by
  refine gT_go e r E hv fun σ2 E2 o2 => ⟨wipe_same o2, ?_⟩
  subst htt htk htv
  refine ⟨α, ρ', g, S, E2, ?_⟩
  cases hb : tst T call c ρ' g with
  | err => rw [hb] at q; exact q.elim
  | exc c g1 => rw [hb] at q; exact q.elim
  | ok b g1 =>
    rw [hb] at q
    intro α1 H1 b' k1 S1 eb
    have eb : b' = b := eb
    subst eb
    obtain ⟨hD1, nD1⟩ := k1.fr D _ hD nD
    cases b' with
    | false =>
      rw [if_neg (by decide)]
      exact hN α1 g1 H1 acc vs (by omega) (k.trans k1) S1 hD1 nD1 (ra.mono k1.pre k1.kp) q
    | true =>
      rw [if_pos rfl]
      refine ⟨α1, ρ', g1, S1, E2.mono k1, ?_⟩
      cases he : ev T call ke ρ' g1 with
      | err => simp only [R.bind, R.nx, he] at q; exact q.elim
      | exc c g2 => simp only [R.bind, R.nx, he] at q; exact q.elim
      | ok y g2 =>
        simp only [R.bind, R.nx, he] at q
        intro α2 H2 yv k2 S2 ry
        obtain ⟨hD2, nD2⟩ := k2.fr D _ hD1 nD1
        refine ⟨α2, ρ', g2, S2, (E2.mono k1).mono k2, ?_⟩
        cases hf : ev T call ve ρ' g2 with
        | err => simp only [R.bind, R.nx, hf] at q; exact q.elim
        | exc c g3 => simp only [R.bind, R.nx, hf] at q; exact q.elim
        | ok z g3 =>
          simp only [R.bind, R.nx, hf] at q
          intro α3 H3 zv k3 S3 rz
          obtain ⟨hD3, nD3⟩ := k3.fr D _ hD2 nD2
          split at q
          · rename_i hft
            obtain ⟨κ, hκ⟩ := fits_key hft
            have hy := keyK_rep hκ ry
            subst hy
            have ra3 := ((ra.mono k1.pre k1.kp).mono k2.pre k2.kp).mono k3.pre k3.kp
            have hl := ra3.length
            refine ⟨vs, κ, rfl, hD3, by have := lim_line; omega, ?_⟩
            have mu : Mut (H3 D) := by rw [hD3]; exact trivial
            have kk : Kp αs Hs α3 H3 := ((k.trans k1).trans k2).trans k3
            have kw : Keep H3 (upd H3 D (.dK (putK vs κ zv))) := .write mu
            have kk' : Kp αs Hs α3 (upd H3 D (.dK (putK vs κ zv))) := ⟨kk.pre, kk.kp.trans kw, fun a u e n => by
              obtain ⟨e1, n1⟩ := kk.fr a u e n
              exact ⟨by rw [upd_ne (ne_of_none e hs)]; exact e1, n1⟩⟩
            exact hN α3 g3 _ (putD acc y z) (putK vs κ zv) (putD_len _ _ _) kk' (S3.mono kw fun a u _ _ ha => by
              rw [upd_ne]
              rintro rfl
              exact nD3 ha) upd_same nD3 ((RepKV.put hκ rz ra3).mono (.refl _) kw) q
          · exact q.elim
/-- a dict comprehension of one clause -/
theorem dcomp_go {own : List Nat} {t : Tg} {s : Src} {c ke ve : E} (hv : ∀ i ∈ t.slots, i ∈ own) {σ : St} {H : Hp} {Q : VK} (h : tD p Wx (dits T call own t s c ke ve) σ H Q) : tDc (tC p Wx T call s) (gT p.K t) (tB p WF (tst T call c)) (tE p WF (ev T call ke)) (tE p WF (ev T call ve)) own σ H Q := by
    obtain ⟨α, ρ, g, S, E, q⟩ := h
    refine ⟨α, ρ, g, S, E, ?_⟩
    simp only [dits] at q
    cases hsrc : src T call s ρ g with
    | err => rw [hsrc] at q; exact q
    | exc c g1 => rw [hsrc] at q; exact q
    | ok cur g1 =>
      rw [hsrc] at q
      intro αs Hs J ks Ss rc D hDn
      have q := postD.mono q ks
      have Es := (E.mono ks).wipe own
      have kj : Kp αs Hs αs (upd Hs D (.dK [])) := .junk hDn
      have nDs : D ∉ αs := fun hm => by
        obtain ⟨u, hu⟩ := Ss.trk hm
        rw [hDn] at hu; cases hu
      have Sj := Ss.junk (u := .dK []) hDn
      have stopK : ∀ {α H}, Kp αs Hs α H → Kp αs Hs (α ++ [D]) H := fun {α H} k => ⟨k.pre.trans ⟨[D], rfl⟩, k.kp, fun a u e n => by
        obtain ⟨e1, n1⟩ := k.fr a u e n
        refine ⟨e1, fun hm => ?_⟩
        rcases List.mem_append.mp hm with hm | hm
        · exact n1 hm
        · have : a = D := by simpa using hm
          subst this
          rw [hDn] at e; cases e⟩
      have run : ∀ (rest : Nat → Nat → List (W × W) → G → R (List (W × W))), (∀ i m acc g, cur.at_ i g = some none → postD p Wx (rest i m acc g) αs Hs σ Q → rest i m acc g = .ok acc g) →
          (∀ i m acc g, cur.at_ i g = none → postD p Wx (rest i m acc g) αs Hs σ Q → False) →
          (∀ i m acc g w, cur.at_ i g = some (some w) → acc.length ≤ i → postD p Wx (rest i m acc g) αs Hs σ Q → ∃ m', m = m' + 1 ∧ i + 1 ≤ lim ∧ ∃ ρ', t.put w (wipeE ρ own) = some ρ' ∧
            rest i m acc g = (tst T call c ρ' g).nx.bind fun b g1 => match b with
              | false => rest (i + 1) m' acc g1
              | true => (ev T call ke ρ' g1).nx.bind fun x g2 => (ev T call ve ρ' g2).nx.bind fun y g3 => if fits [] x then rest (i + 1) m' (putD acc x y) g3 else .err) →
          (∃ m0, postD p Wx (rest 0 m0 [] g1) αs Hs σ Q) →
          ∃ Wn : Nat → Nat → Hp → Prop, (∃ m, Wn 0 m (upd Hs D (.dK []))) ∧ ∀ i m H, Wn i m H →
            (J.stop i H ∧ Q (.ref D) H) ∨ (J.go i H ∧ ∃ Nx : Hp → Prop, (∀ H', Nx H' → ∃ m', m' < m ∧ Wn (i + 1) m' H') ∧ ∀ x H', J.yld i H x H' → gT p.K t x (wipe σ own) H' fun σ2 H2 => wipe σ2 own = wipe σ own ∧ tB p WF (tst T call c) σ2 H2 fun b H3 =>
              if b = true then tE p WF (ev T call ke) σ2 H3 fun y H4 => tE p WF (ev T call ve) σ2 H4 fun z H5 => ∃ kvs k, y = kV k ∧ H5 D = some (.dK kvs) ∧ kvs.length < sizeLine ∧ Nx (upd H5 D (.dK (putK kvs k z))) else Nx H3) := by
        intro rest hstop hno hgo ⟨m0, q0⟩
        refine ⟨fun i m H => ∃ α g acc vs, Kp αs Hs α H ∧ Sim p α g H ∧ H D = some (.dK vs) ∧ D ∉ α ∧ RepKV p α H acc vs ∧ acc.length ≤ i ∧ postD p Wx (rest i m acc g) αs Hs σ Q,
          ⟨m0, αs, g1, [], [], kj, Sj, upd_same, nDs, rfl, Nat.zero_le _, q0⟩, ?_⟩
        rintro i m H ⟨α, g, acc, vs, k, S, hD, nD, ra, hl, q⟩
        obtain ⟨c1, c2⟩ := rc α g H i k S
        cases hc : cur.at_ i g with
        | none => exact (hno i m acc g hc q).elim
        | some o =>
          cases o with
          | none =>
            rw [hstop i m acc g hc q] at q
            exact .inl ⟨c1 hc, q α H D vs k S hD nD (stopK k) ra⟩
          | some w =>
            obtain ⟨m', rfl, hlim, ρ', e1, e2⟩ := hgo i m acc g w hc hl q
            obtain ⟨d1, d2⟩ := c2 w hc
            rw [e2] at q
            refine .inr ⟨d1, fun H' => ∃ α g acc vs, Kp αs Hs α H' ∧ Sim p α g H' ∧ H' D = some (.dK vs) ∧ D ∉ α ∧ RepKV p α H' acc vs ∧ acc.length ≤ i + 1 ∧ postD p Wx (rest (i + 1) m' acc g) αs Hs σ Q, fun H' h => ⟨m', by omega, h⟩, fun x H' y => ?_⟩
            obtain ⟨k2, S2, r2⟩ := d2 x H' y
            obtain ⟨hD2, nD2⟩ := k2.fr D _ hD nD
            exact dc_turn (own := own) rfl rfl rfl (rest (i + 1) m') e1 r2 S2 ((Es.mono k).mono k2) hv hD2 nD2 (ra.mono k2.pre k2.kp) (k.trans k2) hDn (by omega) q
              (fun α' g' H' acc' vs' a0 a1 a2 a3 a4 a5 a6 => ⟨α', g', acc', vs', a1, a2, a3, a4, a5, by omega, a6⟩)
      have mkL : ∀ (hq : postD p Wx (dcL t (tst T call c) (ev T call ke) (ev T call ve) (wipeE ρ own) cur FUEL 0 [] g1) αs Hs σ Q), _ := fun hq =>
        run (fun i m acc g => if i + m ≤ lim then dcL t (tst T call c) (ev T call ke) (ev T call ve) (wipeE ρ own) cur m i acc g else .err) (fun i m acc g hc q => by
            try simp only at q ⊢
            split at q
            · rename_i hh
              rw [if_pos hh]
              cases m with
              | zero => exact q.elim
              | succ m => simp only [dcL, hc]
            · exact q.elim)
          (fun i m acc g hc q => by
            try simp only at q
            split at q
            · cases m with
              | zero => exact q.elim
              | succ m => simp only [dcL, hc] at q; exact q.elim
            · exact q.elim)
          (fun i m acc g w hc hl q => by
            try simp only at q ⊢
            split at q
            · rename_i hh
              cases m with
              | zero => exact q.elim
              | succ m =>
                refine ⟨m, rfl, by omega, ?_⟩
                rw [if_pos hh]
                simp only [dcL, hc] at q ⊢
                cases hp : t.put w (wipeE ρ own) with
                | none => rw [hp] at q; exact q.elim
                | some ρ' =>
                  refine ⟨ρ', rfl, ?_⟩
                  simp only [show i + 1 + m ≤ lim by omega, if_true]
                  all_goals first | rfl | (congr 1; done) | (congr 1; funext b g1; cases b <;> rfl)
            · exact q.elim)
          ⟨FUEL, by simp only [show 0 + FUEL ≤ lim from by decide, if_true]; exact hq⟩
      cases cur with
      | vals ws =>
        simp only [R.bind] at q
        split at q
        · rename_i hw
          refine run (fun i m acc g => if m = ws.length - i ∧ i ≤ ws.length then dcV t (tst T call c) (ev T call ke) (ev T call ve) (wipeE ρ own) (ws.drop i) acc g else .err) (fun i m acc g hc q => ?_) (fun i m acc g hc q => ?_) (fun i m acc g w hc hl q => ?_) ⟨ws.length, by simpa using q⟩
          · simp only [Cur.at_, Option.some.injEq] at hc
            try simp only at q ⊢
            split at q
            · rename_i hh
              rw [if_pos hh, List.drop_eq_nil_of_le (List.getElem?_eq_none_iff.mp hc)]
              rfl
            · exact q.elim
          · simp [Cur.at_] at hc
          · simp only [Cur.at_, Option.some.injEq] at hc
            try simp only at q ⊢
            split at q
            · rename_i hh
              obtain ⟨hlt, hw'⟩ := List.getElem?_eq_some_iff.mp hc
              have hdr : ws.drop i = w :: ws.drop (i + 1) := by rw [List.drop_eq_getElem_cons hlt, hw']
              rw [if_pos hh]
              rw [hdr] at q ⊢
              refine ⟨ws.length - (i + 1), by omega, by omega, ?_⟩
              simp only [dcV] at q ⊢
              cases hp : t.put w (wipeE ρ own) with
              | none => rw [hp] at q; exact q.elim
              | some ρ' =>
                refine ⟨ρ', rfl, ?_⟩
                simp only [show (ws.length - (i + 1) = ws.length - (i + 1) ∧ i + 1 ≤ ws.length) from ⟨rfl, hlt⟩, and_self, if_true]
                all_goals first | rfl | (congr 1; done) | (congr 1; funext b g1; cases b <;> rfl)
            · exact q.elim
        · exact q.elim
      | live i => exact mkL q
      | lenum i => exact mkL q
      | lzip i j => exact mkL q
theorem dcomp_val {e : Expr} {own : List Nat} {t : Tg} {s : Src} {c ke ve : E} (hv : ∀ i ∈ t.slots, i ∈ own)
    (hd : PE X e (tDc (tC p Wx T call s) (gT p.K t) (tB p WF (tst T call c)) (tE p WF (ev T call ke)) (tE p WF (ev T call ve)) own)) : PE X e (tV p Wx T call (.dcomp own t s c ke ve)) :=
  PE.by fun σ H Q q => ⟨_, hd, dcomp_go hv (allocD_go (by
    have e2 : ev T call (.dcomp own t s c ke ve) = fun ρ g => (dits T call own t s c ke ve ρ g).bind fun ws g2 => R.ok (W.ref g2.length) (g2 ++ [Ob.dct ws]) := by
      funext ρ g
      rw [ev_dcomp]
    have q2 : tE p Wx (ev T call (.dcomp own t s c ke ve)) σ H Q := q
    rw [e2] at q2
    exact q2))⟩
/-! ### get, pop -/
theorem e_dget {e : Expr} {o' k' d' : E} (hd : PE X e (tDGet2 (tV p Wx T call o') (tV p Wx T call k') (tV p Wx T call d'))) : PE X e (tV p Wx T call (.dget o' k' d')) :=
  PE.by fun σ H Q ⟨α, ρ, g, S, E, q⟩ => ⟨_, hd, α, ρ, g, S, E, by
    simp only [ev] at q
    refine (post.bind (Rq := RepV p) q).imp fun x H1 _ ⟨α1, g1, w, K1, S1, rx, q1⟩ => ?_
    cases hk0 : kvsOf w g1 with
    | none => rw [hk0] at q1; exact q1.elim
    | some kvs0 =>
      rw [hk0] at q1
      obtain ⟨i, rfl⟩ : ∃ i, w = .ref i := by
        cases w <;> first | exact ⟨_, rfl⟩ | (simp [kvsOf] at hk0)
      obtain ⟨a, rfl, ea⟩ := rx.ref'
      obtain ⟨kvs', hd, _⟩ := S1.kvs hk0 ea
      refine ⟨a, rfl, .inl ⟨kvs', hd⟩, α1, ρ, g1, S1, E.mono K1, ?_⟩
      refine (post.bind (Rq := RepV p) q1).imp fun y H2 _ ⟨α2, g2, u, K2, S2, ry, q2⟩ => ?_
      refine ⟨α2, ρ, g2, S2, (E.mono K1).mono K2, ?_⟩
      refine (post.bind (Rq := RepV p) q2).imp fun z H3 _ ⟨α3, g3, v, K3, S3, rz, q3⟩ => ?_
      cases hk1 : kvsOf (.ref i) g3 with
      | none => rw [hk1] at q3; exact q3.elim
      | some kvs =>
        rw [hk1] at q3
        simp only at q3
        split at q3
        · rename_i c
          obtain ⟨κ, hκ⟩ := fits_key c
          obtain ⟨kvs2, hd2, rr⟩ := S3.kvs hk1 ((K2.trans K3).pre.get ea)
          have hy := keyK_rep hκ (ry.mono K3)
          subst hy
          refine ⟨valV kvs2 κ, .inl ⟨kvs2, κ, hd2, rfl, rfl⟩, ?_⟩
          rcases RepKV.get hκ rr with ⟨a1, a2⟩ | ⟨w', v', a1, a2, a3⟩
          · rw [a1] at q3; rw [a2]; exact post.ok q3 S3 rz
          · rw [a1] at q3; rw [a2]; exact post.ok q3 S3 a3
        · exact q3.elim⟩
theorem e_dget1 {e : Expr} {o' k' : E} (hd : PE X e (tDGet1 (tV p Wx T call o') (tV p Wx T call k'))) : PE X e (tV p Wx T call (.dget o' k' (.cst .non))) :=
  PE.by fun σ H Q ⟨α, ρ, g, S, E, q⟩ => ⟨_, hd, α, ρ, g, S, E, by
    simp only [ev] at q
    refine (post.bind (Rq := RepV p) q).imp fun x H1 _ ⟨α1, g1, w, K1, S1, rx, q1⟩ => ?_
    cases hk0 : kvsOf w g1 with
    | none => rw [hk0] at q1; exact q1.elim
    | some kvs0 =>
      rw [hk0] at q1
      obtain ⟨i, rfl⟩ : ∃ i, w = .ref i := by
        cases w <;> first | exact ⟨_, rfl⟩ | (simp [kvsOf] at hk0)
      obtain ⟨a, rfl, ea⟩ := rx.ref'
      obtain ⟨kvs', hd, _⟩ := S1.kvs hk0 ea
      refine ⟨a, rfl, .inl ⟨kvs', hd⟩, α1, ρ, g1, S1, E.mono K1, ?_⟩
      refine (post.bind (Rq := RepV p) q1).imp fun y H2 _ ⟨α2, g2, u, K2, S2, ry, q2⟩ => ?_
      simp only [R.bind] at q2
      cases hk1 : kvsOf (.ref i) g2 with
      | none => rw [hk1] at q2; exact q2.elim
      | some kvs =>
        rw [hk1] at q2
        simp only at q2
        split at q2
        · rename_i c
          obtain ⟨κ, hκ⟩ := fits_key c
          obtain ⟨kvs2, hd2, rr⟩ := S2.kvs hk1 (K2.pre.get ea)
          have hy := keyK_rep hκ ry
          subst hy
          refine ⟨valV kvs2 κ, .inl ⟨kvs2, κ, hd2, rfl, rfl⟩, ?_⟩
          rcases RepKV.get hκ rr with ⟨a1, a2⟩ | ⟨w', v', a1, a2, a3⟩
          · rw [a1] at q2; rw [a2]; exact post.ok q2 S2 .non
          · rw [a1] at q2; rw [a2]; exact post.ok q2 S2 a3
        · exact q2.elim⟩
theorem RepKV.drop {α : List Addr} {H : Hp} {k : W} {κ : Key} (hk : keyK k = some κ) : ∀ {kvs : List (W × W)} {kvs' : List (Key × V)}, RepKV p α H kvs kvs' → RepKV p α H (dropD kvs k) (dropK kvs' κ)
  | [], _, h => by
    have : _ = [] := h
    subst this; exact h
  | (a, w') :: r, _, ⟨k', v', q, e, ek, rv, rr⟩ => by
    subst e
    have rec_ := RepKV.drop hk rr
    unfold dropD dropK at rec_ ⊢
    by_cases ha : a = k
    · subst ha
      rw [List.filter_cons_of_neg (by simp [weq_refl]), List.filter_cons_of_neg (by simp [Option.some.inj (ek.symm.trans hk)])]
      exact rec_
    · have n : ¬ k' = κ := fun z => ha (keyK_inj (z ▸ ek) hk)
      rw [List.filter_cons_of_pos (by simp [weq_ne ha]), List.filter_cons_of_pos (by simpa using n)]
      exact ⟨k', v', _, rfl, ek, rv, rec_⟩
theorem dropD_none {kvs : List (W × W)} {k : W} (h : getD kvs k = none) : dropD kvs k = kvs := by
  induction kvs with
  | nil => rfl
  | cons a r ih =>
    obtain ⟨a, b⟩ := a
    simp only [getD] at h
    split at h
    · cases h
    · rename_i n
      unfold dropD at ih ⊢
      rw [List.filter_cons_of_pos (by simpa using n), ih h]
theorem list_set_self {g : G} {i : Nat} {o : Ob} (h : g[i]? = some o) : g.set i o = g := by
  obtain ⟨h1, h2⟩ := List.getElem?_eq_some_iff.mp h
  subst h2
  exact List.set_getElem_self h1
theorem e_dpop {e : Expr} {o' k' d' : E} (hd : PE X e (tDPop2 (tV p Wx T call o') (tV p Wx T call k') (tV p Wx T call d'))) : PE X e (tV p Wx T call (.dpop o' k' d')) :=
  PE.by fun σ H Q ⟨α, ρ, g, S, E, q⟩ => ⟨_, hd, α, ρ, g, S, E, by
    simp only [ev] at q
    refine (post.bind (Rq := RepV p) q).imp fun x H1 _ ⟨α1, g1, w, K1, S1, rx, q1⟩ => ?_
    cases w with
    | ref i =>
      obtain ⟨a, rfl, ea⟩ := rx.ref'
      simp only at q1
      split at q1
      · rename_i kvs0 h0
        obtain ⟨kvs', hd, _⟩ := S1.dict h0 ea
        refine ⟨a, rfl, .inl ⟨kvs', .inl hd⟩, α1, ρ, g1, S1, E.mono K1, ?_⟩
        refine (post.bind (Rq := RepV p) q1).imp fun y H2 _ ⟨α2, g2, u, K2, S2, ry, q2⟩ => ?_
        refine ⟨α2, ρ, g2, S2, (E.mono K1).mono K2, ?_⟩
        refine (post.bind (Rq := RepV p) q2).imp fun z H3 _ ⟨α3, g3, v, K3, S3, rz, q3⟩ => ?_
        split at q3
        · rename_i kvs h3
          split at q3
          · rename_i c
            have ea3 := (K2.trans K3).pre.get ea
            obtain ⟨κ, hκ⟩ := fits_key c
            obtain ⟨kvs2, hd2, rr⟩ := S3.dict h3 ea3
            have hy := keyK_rep hκ (ry.mono K3)
            subst hy
            have mu : Mut (H3 a) := by rw [hd2]; exact trivial
            have kw : Kp α3 H3 α3 (upd H3 a (.dK (dropK kvs2 κ))) := .write mu (List.mem_of_getElem? ea3)
            refine ⟨kvs2, κ, hd2, rfl, fun v' hv => ?_, fun hn => ?_⟩
            · rcases RepKV.get hκ rr with ⟨a1, a2⟩ | ⟨w', v2, a1, a2, a3⟩
              · rw [a2] at hv; cases hv
              · rw [a2] at hv; cases hv
                rw [a1] at q3
                exact q3 α3 _ _ kw (S3.write h3 ea3 ⟨_, upd_same, (RepKV.drop hκ rr).mono (.refl _) kw.kp⟩) (a3.mono kw)
            · rcases RepKV.get hκ rr with ⟨a1, a2⟩ | ⟨w', v2, a1, a2, a3⟩
              · rw [a1, dropD_none a1, list_set_self h3] at q3
                exact post.ok q3 S3 rz
              · rw [a2] at hn; cases hn
          · exact q3.elim
        · exact q3.elim
      · exact q1.elim
    | _ => exact q1.elim⟩
theorem RepVs.erase {α : List Addr} {H : Hp} : ∀ {ws : List W} {vs : List V} (n : Nat), RepVs p α H ws vs → RepVs p α H (ws.eraseIdx n) (vs.eraseIdx n)
  | [], _, n, h => by
    have := h.nil'
    subst this
    exact .nil
  | w :: ws, _, 0, h => by
    obtain ⟨v, q, rfl, r1, r2⟩ := h.cons'
    exact r2
  | w :: ws, _, n + 1, h => by
    obtain ⟨v, q, rfl, r1, r2⟩ := h.cons'
    exact .cons r1 (RepVs.erase n r2)
theorem e_pop1 {e : Expr} {o' k' : E} (hK : p.K = X.K) (hd : PE X e (tBM X.K "list" rPopAt (tV p Wx T call o') (tL p Wx T call (.cons k' .nil)))) : PE X e (tV p Wx T call (.pop1 o' k')) :=
  PE.by fun σ H Q ⟨α, ρ, g, S, E, q⟩ => ⟨_, hd, α, ρ, g, S, E, by
    simp only [ev] at q
    refine (post.bind (Rq := RepV p) q).imp fun x H1 _ ⟨α1, g1, w, K1, S1, rx, q1⟩ => ?_
    cases w with
    | ref i =>
      obtain ⟨a, rfl, ea⟩ := rx.ref'
      simp only at q1
      split at q1
      · rename_i ws0 h0
        obtain ⟨vs, h1, rs⟩ := S1.lst h0 ea
        refine ⟨.inl ⟨rfl, vs, .of h1⟩, α1, ρ, g1, S1, E.mono K1, ?_⟩
        have q1' : post p Wx (RepV p) ((evl T call (.cons k' .nil) ρ g1).bind fun us g2 => match us with
          | [y] => match g2[i]?, y with
            | some (.lst ws), .int j => match ixW ws.length j with
              | some n => match ws[n]? with
                | some w => if ws.length ≤ lim then .ok w (g2.set i (.lst (ws.eraseIdx n))) else .err
                | none => .err
              | none => .err
            | _, _ => .err
          | _ => .err) α1 H1 σ Q := by
          simp only [evl]
          cases hv : ev T call k' ρ g1 <;> rw [hv] at q1 <;> exact q1
        refine (post.bind (Rq := RepVs p) q1').imp fun us H2 _ ⟨α2, g2, wsy, K2, S2, ry, q2⟩ => ?_
        rcases wsy with _ | ⟨y, _ | ⟨z, ws⟩⟩ <;> try exact q2.elim
        obtain ⟨v, q', rfl, r1, r2⟩ := ry.cons'
        have := r2.nil'
        subst this
        simp only at q2
        split at q2
        · rename_i ws j h2
          split at q2
          · rename_i n hn
            split at q2
            · rename_i w hw
              split at q2
              case isFalse => exact q2.elim
              rename_i hlim
              have ea2 := K2.pre.get ea
              obtain ⟨xs, hx, rx⟩ := S2.lst h2 ea2
              obtain ⟨v, e1, rv⟩ := rx.get hw
              have rj := r1.int'
              subst rj
              have mu : Mut (H2 a) := by rw [hx]; exact trivial
              have kw : Kp α2 H2 α2 (upd H2 a (.lst (xs.eraseIdx n))) := .write mu (List.mem_of_getElem? ea2)
              have hi := ixN_seq (n := xs.length) (i := j) (j := n) (by rw [← rx.length]; exact hn)
              have hl := rx.length
              have hlm : lim = 1000000 := rfl
              exact ⟨a, xs, j, n, v, rfl, rfl, hx, by omega, by omega, hi.1, e1, q2 α2 _ _ kw (S2.write h2 ea2 ⟨_, upd_same, (RepVs.erase n rx).mono kw⟩) (rv.mono kw)⟩
            · exact q2.elim
          · exact q2.elim
        · exact q2.elim
      · exact q1.elim
    | _ => exact q1.elim⟩
/-! ### sorted -/
def rSortDI : List V → Hp → VK → Prop := fun xs H Q => ∃ (a : Addr) (kvs : List (Key × V)) (ks : List Int), xs = [.ref a] ∧ Rd H a (.dK kvs) ∧ kvs.map (·.1) = ks.map Sum.inl ∧ ks.length < 64 ∧
    ∀ (ys : List Int) (p : Addr), ys.Perm ks → ys.Pairwise (· ≤ ·) → H p = none → Q (.ref p) (upd H p (.lst (ys.map V.int)))
theorem keys_ints {α : List Addr} {H : Hp} : ∀ {kvs : List (W × W)} {kvs' : List (Key × V)} {l : List Int}, RepKV p α H kvs kvs' → asInts (kvs.map (·.1)) = some l → kvs'.map (·.1) = l.map Sum.inl
  | [], _, l, h, e => by
    have : _ = [] := h
    subst this
    simp [asInts] at e
    subst e; rfl
  | (a, b) :: r, _, l, ⟨k, v, q, e, ek, rv, rr⟩, h => by
    subst e
    cases a <;> simp only [List.map_cons, asInts] at h <;> try cases h
    simp only [Option.map_eq_some_iff] at h
    obtain ⟨l', h, rfl⟩ := h
    simp [keyK] at ek
    subst ek
    simp [keys_ints rr h]
theorem e_srt {e : Expr} {a' : E} (hK : p.K = X.K) (h1 : PE X e (tCB (rSorted X.K) (tCons (tV p Wx T call a') tNil))) (h2 : PE X e (tCB rSortDI (tCons (tV p Wx T call a') tNil))) : PE X e (tV p Wx T call (.srt a')) :=
  PE.by fun σ H Q ⟨α, ρ, g, S, E, q⟩ => by
    simp only [ev] at q
    by_cases isd : ∃ w g1 kvs, ev T call a' ρ g = .ok w g1 ∧ kvsOf w g1 = some kvs
    · obtain ⟨w, g1, kvs, e1, e2⟩ := isd
      refine ⟨_, h2, α, ρ, g, S, E, ?_⟩
      rw [e1] at q ⊢
      simp only [R.bind, e2] at q
      intro α1 H1 v K1 S1 r
      cases w with
      | ref i =>
        obtain ⟨a, rfl, ea⟩ := r.ref'
        obtain ⟨kvs', hd, rr⟩ := S1.kvs e2 ea
        have q := post.mono q K1
        simp only [BS.run] at q
        split at q
        · rename_i l el
          split at q
          · rename_i c
            refine ⟨a, kvs', l, rfl, hd, keys_ints rr el, c, fun ns' q1 pe so hq => ?_⟩
            have : ns' = sortI l := sorted_uniq (pe.trans (sortI_perm l).symm) so (sortI_sorted l)
            subst this
            exact post.newL q S1 rep_ints hq
          · exact q.elim
        · exact q.elim
      | _ => simp [kvsOf] at e2
    · refine ⟨_, h1, α, ρ, g, S, E, ?_⟩
      cases hr : ev T call a' ρ g with
      | err => rw [hr] at q; exact q.elim
      | exc c g1 => rw [hr] at q; exact q
      | ok w g1 =>
        rw [hr] at q
        have hn : kvsOf w g1 = none := by
          cases hk : kvsOf w g1 with
          | none => rfl
          | some kvs => exact absurd ⟨w, g1, kvs, hr, hk⟩ isd
        simp only [R.bind, hn] at q
        intro α1 H1 v K1 S1 r
        have q := post.mono q K1
        cases hl : lstOf w g1 with
        | none => rw [hl] at q; exact q.elim
        | some ws =>
          rw [hl] at q
          obtain ⟨a, vs, rfl, L, rs⟩ := lstOf_rep S1 r hl
          exact bs_sorted hK S1 L rs q
end
end Dl

/-! DlL: from the text's syntax to the interpreter's; it is sound. -/
namespace Dl
open PySem L2
inductive Blt where
  | abs | int | len | any | all | sum | max | min | sorted | tuple | list | isinstance | range | enumerate | zip | set | repr
  deriving DecidableEq
def Blt.name : Blt → Str
  | .abs => "abs" | .int => "int" | .len => "len" | .any => "any" | .all => "all" | .sum => "sum" | .max => "max" | .min => "min" | .sorted => "sorted" | .tuple => "tuple" | .list => "list"
  | .isinstance => "isinstance" | .range => "range" | .enumerate => "enumerate" | .zip => "zip" | .set => "set" | .repr => "repr"
/-- what a global name stands for -/
inductive GV where
  | fn (i : Nat) | cls (c : Nat) | val (w : W) | exc (c : Nat) | blt (b : Blt) | ty (t : Ty) | vex
structure Cn where
  gl : List (Str × GV)
  fld : List Nm
  N : List Str
  /-- the law's own def: no repr is under way -/
  top : Bool
  /-- errors' classes: who is whose -/
  sup : List (Nat × Nat)
def ixOf (x : Str) : List Str → Nat → Option Nat
  | [], _ => none
  | y :: r, k => if y = x then some k else ixOf x r (k + 1)
theorem ixOf_get {x : Str} : ∀ {l : List Str} {k i : Nat}, ixOf x l k = some i → k ≤ i ∧ l[i - k]? = some x
  | [], _, _, h => by simp [ixOf] at h
  | y :: r, k, i, h => by
    simp only [ixOf] at h
    split at h
    · rename_i e
      cases h
      exact ⟨Nat.le_refl _, by simp [e]⟩
    · obtain ⟨a, b⟩ := ixOf_get h
      refine ⟨by omega, ?_⟩
      have : i - k = (i - (k + 1)) + 1 := by omega
      rw [this]
      simpa using b
def isGl (sc : Scope) (x : Str) : Bool := decide (sc.names.lookup x = some .globalImplicit) && (!(x == ("__debug__" : Str))) && decide (x ≠ ("__name__" : Str))
def isVis (sc : Scope) (x : Str) : Bool := (match sc.names.lookup x with
  | some .local | some .cell | some .free => true
  | _ => false) && (!(x == ("__debug__" : Str))) && (!(x == ("__classdict__" : Str)))
def isLoc (sc : Scope) (x : Str) : Bool := decide (sc.names.lookup x = some .local)
def cName (c : Cn) (sc : Scope) (x : Str) : Option E :=
  if isVis sc x then (ixOf x c.N 0).map .var else if isGl sc x then match c.gl.lookup x with
    | some (.val w) => some (.cst w)
    | _ => none
  else none
def cBop : Operator → Option Bop
  | .Add => some .add | .Sub => some .sub | .Mult => some .mul | .FloorDiv => some .fdiv | .Mod => some .mod | .Pow => some .pow | .LShift => some .shl | .RShift => some .shr | .BitAnd => some .band | .BitOr => some .bor | .BitXor => some .bxor
  | _ => none
theorem cBop_ok {o : Operator} {b : Bop} (h : cBop o = some b) : o = b.op := by cases o <;> simp [cBop] at h <;> subst h <;> rfl
def cCop : CmpOp → Cop
  | .Eq => .eq | .NotEq => .ne | .Lt => .lt | .LtE => .le | .Gt => .gt | .GtE => .ge | .Is => .is_ | .IsNot => .isnot | .In => .in_ | .NotIn => .notin
theorem cCop_ok (o : CmpOp) : (cCop o).op = o := by cases o <;> rfl
def notSet : Expr → Bool
  | .Set _ _ _ => false
  | _ => true
def notSlice : Expr → Bool
  | .Slice _ _ _ _ => false
  | _ => true
def notComp : Expr → Bool
  | .ListComp _ _ _ _ | .SetComp _ _ _ _ | .DictComp _ _ _ _ _ => false
  | _ => true
/-- a target within the scope -/
def isTg (cl : Str → Bool) (sc : Scope) (x : Str) : Bool := isLoc sc x || (decide (sc.names.lookup x = some .cell) && cl x)
def cTgN (c : Cn) (cl : Str → Bool) (sc : Scope) : Expr → Option Nat
  | .Name x _ => if isTg cl sc x then ixOf x c.N 0 else none
  | _ => none
def cTgs (c : Cn) (cl : Str → Bool) (sc : Scope) : List Expr → Option (List Nat)
  | [] => some []
  | e :: r => match cTgN c cl sc e, cTgs c cl sc r with
    | some i, some l => some (i :: l)
    | _, _ => none
def cTg (c : Cn) (cl : Str → Bool) (sc : Scope) : Expr → Option Tg
  | .Name x p => (cTgN c cl sc (.Name x p)).map .nm
  | .Tuple es _ _ => (cTgs c cl sc es).map .tp
  | _ => none
/-- cells of a comprehension's own scope; of a def -/
def clB (scope : Scope) (x : Str) : Bool := scope.names.lookup x == some .cell
def clA (_ : Str) : Bool := true
/-- the own names of a comprehension's scope -/
def cOwn (c : Cn) : List (Str × NameKind) → Option (List (Str × Nat))
  | [] => some []
  | (x, .local) :: r => match ixOf x c.N 0, cOwn c r with
    | some i, some l => some ((x, i) :: l)
    | none, o => o
    | _, _ => none
  | (x, .cell) :: r => match ixOf x c.N 0, cOwn c r with
    | some i, some l => some ((x, i) :: l)
    | none, o => o
    | _, _ => none
  | _ :: r => cOwn c r
def isTestPlain : Expr → Bool
  | .UnaryOp .Not _ _ | .BoolOp _ _ _ | .IfExp _ _ _ _ | .Compare _ _ _ _ => false
  | _ => true
structure Rec where
  e : Scope → Expr → Option E
  el : Scope → List Expr → Option EL
  b : Scope → BoolOp → List Expr → Option E
  t : Scope → Expr → Option E
  bt : Scope → BoolOp → List Expr → Option E
  i : Scope → Expr → Option E
  s : Scope → Expr → Expr → Option Src
section
variable (c : Cn) (r : Rec)
def nCmp (sc : Scope) (a : Expr) : List CmpOp → List Expr → Option E
  | [op], [b] => if notSet b then match r.e sc a, r.e sc b with
    | some a', some b' => some (.cmp (cCop op) a' b')
    | _, _ => none else none
  | [op, op2], [b, d] => if notSet b && notSet d then match r.e sc a, r.e sc b, r.e sc d with
    | some a', some b', some d' => some (.chain (cCop op) (cCop op2) a' b' d')
    | _, _, _ => none else none
  | _, _ => none
def nSub (sc : Scope) (a : Expr) : Expr → Option E
  | .Slice (some lo) none none _ => match r.e sc a, r.e sc lo with
    | some a', some l' => some (.slo a' l')
    | _, _ => none
  | .Slice none (some hi) none _ => match r.e sc a, r.e sc hi with
    | some a', some l' => some (.shi a' l')
    | _, _ => none
  | .Slice (some lo) (some hi) none _ => match r.e sc a, r.e sc lo, r.e sc hi with
    | some a', some l', some h' => some (.slh a' l' h')
    | _, _, _ => none
  | .Slice none none (some (.UnaryOp .USub (.Constant (.int 1) _ _) _)) _ => match r.e sc a with
    | some a' => some (.rev a')
    | _ => none
  | i => if notSlice i then match r.e sc a, r.e sc i with
    | some a', some i' => some (.idx a' i')
    | _, _ => none else none
def nTy (sc : Scope) : Expr → Option Ty
  | .Name t _ => if isGl sc t then match c.gl.lookup t with
    | some (.ty ty) => some ty
    | some (.blt .int) => some .int
    | some (.blt .tuple) => some .tuple
    | some (.blt .list) => some .list
    | _ => none else none
  | _ => none
def isLC : Expr → Bool
  | .ListComp _ _ _ _ => true
  | _ => false
def isLL : Expr → Bool
  | .ListComp _ _ _ _ | .List _ _ => true
  | _ => false
def nBlt1 (sc : Scope) (b : Blt) (a : Expr) : Option E := match b with
  | .repr => if c.top then (r.e sc a).map fun a' => .b1 .repr a' else none
  | .abs => (r.e sc a).map fun a' => .b1 .abs a'
  | .int => (r.e sc a).map fun a' => .b1 .int a'
  | .len => (r.e sc a).map fun a' => .b1 .len a'
  | .any => (r.i sc a).map fun a' => .bs .any a'
  | .all => (r.i sc a).map fun a' => .bs .all a'
  | .sum => (r.i sc a).map fun a' => .bs .sum a'
  | .max => (r.i sc a).map fun a' => .bs .max a'
  | .min => (r.i sc a).map fun a' => .bs .min a'
  | .sorted => if isLL a then (r.i sc a).map fun a' => .bs .sorted a' else (r.e sc a).map fun a' => .srt a'
  | .tuple => if isLC a then (r.i sc a).map fun a' => .bs .tuple a' else (r.e sc a).map fun a' => .bt .tuple a'
  | .list => (r.e sc a).map fun a' => .bt .list a'
  | _ => none
def nBlt2 (sc : Scope) (b : Blt) (a d : Expr) : Option E := match b with
  | .max => match r.e sc a, r.e sc d with
    | some a', some d' => some (.max2 a' d')
    | _, _ => none
  | .min => match r.e sc a, r.e sc d with
    | some a', some d' => some (.min2 a' d')
    | _, _ => none
  | .isinstance => match r.e sc a, nTy c sc d with
    | some a', some t => some (.isi a' t)
    | _, _ => none
  | _ => none
def lsArg (sc : Scope) : Expr → Option Expr
  | .Call (.Name y _) [b] [] _ => if isGl sc y && notStar b then (match c.gl.lookup y with | some (.blt .set) => some b | _ => none) else none
  | _ => none
def nCall (sc : Scope) (x : Str) (args : List Expr) : Option E :=
  if isGl sc x then match c.gl.lookup x with
    | some (.fn i) => (r.el sc args).map fun es => .call i es
    | some (.cls k) => (r.el sc args).map fun es => .new k es
    | some (.blt b) => match args with
      | [a] => if notStar a then (match (if b = .len then lsArg c sc a else none) with
        | some d => (r.e sc d).map .lset
        | none => nBlt1 c r sc b a) else none
      | [a, d] => if notStar a && notStar d then nBlt2 c r sc b a d else none
      | _ => none
    | _ => none
  else none
def nMeth (sc : Scope) (o : Expr) (m : Str) (args : List Expr) : Option E := match r.e sc o, r.el sc args with
  | some o', some es => if m = ("append" : Str) then (if args.length = 1 then some (.mth .append o' es) else none)
    else if m = ("extend" : Str) then (if args.length = 1 then some (.mth .extend o' es) else none)
    else if m = ("pop" : Str) then (if args.length = 0 then some (.mth .pop0 o' es) else match es with
      | .cons k' .nil => if args.length = 1 then some (.pop1 o' k') else none
      | .cons k' (.cons d' .nil) => (match args with
        | [a, d] => (match r.e sc a, r.e sc d with
          | some a', some d' => some (.dpop o' a' d')
          | _, _ => none)
        | _ => none)
      | _ => none)
    else if m = ("get" : Str) then (match args with
      | [a] => (r.e sc a).map fun a' => .dget o' a' (.cst .non)
      | [a, d] => (match r.e sc a, r.e sc d with
        | some a', some d' => some (.dget o' a' d')
        | _, _ => none)
      | _ => none)
    else some (.meth o' m.cps.toList es)
  | _, _ => none
def nPairs (sc : Scope) : List (Option Expr) → List Expr → Option EL
  | [], [] => some .nil
  | some k :: ks, v :: vs => match r.e sc k, r.e sc v, nPairs sc ks vs with
    | some k', some v', some es => some (.cons k' (.cons v' es))
    | _, _, _ => none
  | _, _ => none
def nIfs (sc : Scope) : List Expr → Option E
  | [] => some (E.cst (.bl true))
  | [d] => r.t sc d
  | _ => none
def nLC (sc : Scope) (elt tg iter : Expr) (ifs : List Expr) (scope : Scope) : Option E :=
  match cOwn c scope.names, cTg c (clB scope) (relS scope sc) tg, r.s sc tg iter, nIfs r (relS scope sc) ifs, r.e (relS scope sc) elt with
  | some own, some t, some s, some d', some el' => if blkC c.N sc scope own && t.slots.all (fun i => (own.map (·.2)).contains i) && notSet iter then some (.comp (own.map (·.2)) t s d' el') else none
  | _, _, _, _, _ => none
def nDC (sc : Scope) (kx vx tg iter : Expr) (ifs : List Expr) (scope : Scope) : Option E :=
  match cOwn c scope.names, cTg c (clB scope) (relS scope sc) tg, r.s sc tg iter, nIfs r (relS scope sc) ifs, r.e (relS scope sc) kx, r.e (relS scope sc) vx with
  | some own, some t, some s, some d', some k', some v' => if blkC c.N sc scope own && t.slots.all (fun i => (own.map (·.2)).contains i) && notSet iter then some (.dcomp (own.map (·.2)) t s d' k' v') else none
  | _, _, _, _, _, _ => none
def nE (sc : Scope) (e : Expr) : Option E := match e with
  | .Constant v _ _ => (match v with
    | .none => some (.cst .non)
    | .bool b => some (.cst (.bl b))
    | .int i => some (.cst (.int i))
    | .str s => some (.cst (.str s.cps.toList))
    | _ => none)
  | .Name x _ => cName c sc x
  | .Tuple es _ _ => if es.length ≤ lim then (r.el sc es).map .tup else none
  | .List es _ => if es.length ≤ lim then (r.el sc es).map .lst else none
  | .BinOp a op b _ => (match cBop op, r.e sc a, r.e sc b with
    | some o, some a', some b' => some (.bop o a' b')
    | _, _, _ => none)
  | .UnaryOp op a _ => (match op with
    | .USub => (r.e sc a).map .neg
    | .Not => (r.e sc a).map .not
    | _ => none)
  | .BoolOp op vs _ => r.b sc op vs
  | .Compare a ops bs _ => nCmp r sc a ops bs
  | .IfExp t a b _ => (match r.t sc t, r.e sc a, r.e sc b with
    | some t', some a', some b' => some (.ife t' a' b')
    | _, _, _ => none)
  | .Subscript a i _ => nSub r sc a i
  | .Attribute o f _ => if c.fld.contains f.cps.toList && notCall0 o then (r.e sc o).map fun o' => .fld o' f.cps.toList else none
  | .Call (.Name x _) args [] _ => nCall c r sc x args
  | .Call (.Attribute o m apos) args [] pos => if notCall0 o && decide (args.length < 20) && (apos.endLine == pos.line) then nMeth r sc o m args else none
  | .ListComp elt gs scope pos => r.i sc (.ListComp elt gs scope pos)
  | .Dict ks vs _ => if ks.length ≤ 15 then (nPairs r sc ks vs).map .dnew else none
  | .DictComp kx vx [⟨tg, iter, ifs, 0⟩] scope _ => nDC c r sc kx vx tg iter ifs scope
  | _ => none
def nEL (sc : Scope) : List Expr → Option EL
  | [] => some .nil
  | e :: rs => if notStar e then match r.e sc e, r.el sc rs with
    | some e', some r' => some (.cons e' r')
    | _, _ => none else none
/-- values of and, or -/
def nB (sc : Scope) (op : BoolOp) : List Expr → Option E
  | [] => none
  | [e] => r.e sc e
  | e :: d :: rs => match r.e sc e, r.b sc op (d :: rs) with
    | some e', some r' => some (match op with | .And => .and e' r' | .Or => .or e' r')
    | _, _ => none
/-- tests -/
def nT (sc : Scope) (e : Expr) : Option E := match e with
  | .UnaryOp .Not a _ => (r.t sc a).map .not
  | .BoolOp op vs _ => r.bt sc op vs
  | .Compare a ops bs _ => nCmp r sc a ops bs
  | e => if isTestPlain e then match r.e sc e with
    | some e' => if plainT e' then some e' else none
    | none => none else none
def nBT (sc : Scope) (op : BoolOp) : List Expr → Option E
  | [] => none
  | [e] => r.t sc e
  | e :: d :: rs => match r.t sc e, r.bt sc op (d :: rs) with
    | some e', some r' => some (match op with | .And => .and e' r' | .Or => .or e' r')
    | _, _ => none
/-- what stands for a list's items -/
def nI (sc : Scope) (e : Expr) : Option E := match e with
  | .List es _ => if es.length ≤ lim then (r.el sc es).map .lst else none
  | .ListComp elt gs scope _ => (match gs with
    | [⟨tg, iter, ifs, 0⟩] => nLC c r sc elt tg iter ifs scope
    | _ => none)
  | e => match r.e sc e with
    | some e' => if plainI e' then some e' else none
    | none => none
def isTup : Expr → Bool
  | .Tuple _ _ _ => true
  | _ => false
inductive SK where | range | enumerate | zip | other
def sKind (sc : Scope) : Expr → SK
  | .Call (.Name x _) _ [] _ => if isGl sc x then match c.gl.lookup x with
    | some (.blt .range) => .range
    | some (.blt .enumerate) => .enumerate
    | some (.blt .zip) => .zip
    | _ => .other
    else .other
  | _ => .other
def sArgs : Expr → List Expr
  | .Call (.Name _ _) args [] _ => args
  | _ => []
/-- what is walked; tg: the target -/
def nS (sc : Scope) (tg e : Expr) : Option Src := match sKind c sc e with
  | .range => (match sArgs e with
    | [a] => if notStar a then (r.e sc a).map .rng1 else none
    | [a, b] => if notStar a && notStar b then match r.e sc a, r.e sc b with
      | some a', some b' => some (.rng2 a' b')
      | _, _ => none else none
    | _ => none)
  | .enumerate => (match sArgs e with
    | [a] => if notStar a && isTup tg then (r.e sc a).map .enum else none
    | _ => none)
  | .zip => (match sArgs e with
    | [a, b] => if notStar a && notStar b && isTup tg then match r.e sc a, r.e sc b with
      | some a', some b' => some (.zip a' b')
      | _, _ => none else none
    | _ => none)
  | .other => (r.e sc e).map .seq
def stp : Rec := ⟨nE c r, nEL r, nB r, nT r, nBT r, nI c r, nS c r⟩
def cR : Nat → Rec
  | 0 => ⟨fun _ _ => none, fun _ _ => none, fun _ _ _ => none, fun _ _ => none, fun _ _ _ => none, fun _ _ => none, fun _ _ _ => none⟩
  | n + 1 => stp c (cR n)
end
end Dl

/-! DlM: the compiler is sound for expressions. -/
namespace Dl
open PySem L2
/-- what the context knows of the globals -/
structure Facts (p : Px) (T : Tbl) (call : CallF) (lv : Nat) (c : Cn) (X : Cx) : Prop where
  fn : ∀ x i, c.gl.lookup x = some (.fn i) → ∃ f, X.mg x = some (.ref f) ∧ FnAt p call lv X f i
  cls : ∀ x k, c.gl.lookup x = some (.cls k) → X.mg x = some (.ref (p.ca k)) ∧ NewOk p T call lv X k ∧ PySem.W.keepIn X.K (.ref (p.ca k)) = true
  val : ∀ x w, c.gl.lookup x = some (.val w) → ∃ u v, X.mg x = some u ∧ RelV v u ∧ ∀ α H, RepV p α H w v
  exc : ∀ x k, c.gl.lookup x = some (.exc k) → X.mg x = some (.ref (p.xa k)) ∧ PySem.W.excIn X.K (p.xa k) [.type "ValueError", .type "Exception", .type "BaseException", .type "object"] "ValueError.__new__" = true ∧ PySem.W.keepIn X.K (.ref (p.xa k)) = true ∧ Raises X (.ref (p.xa k))
  blt : ∀ x b, c.gl.lookup x = some (.blt b) → x = b.name ∧ X.mg x = none
  ty : ∀ x t, c.gl.lookup x = some (.ty t) → x = t.name ∧ X.mg x = none ∧ t.name ≠ ""
  m : ClOk p T call lv X
  fld : ∀ f, c.fld.contains f = true → FldOk p f
  kit : KitOk X.K
  sup : ∀ k j, (k, j) ∈ c.sup → ExcC X.K (p.xa k) ∧ PySem.W.exmOne X.K (.ref (p.xa k)) (.ref (p.xa k)) = some true ∧ PySem.W.kitOne X.K (.ref (p.xa k)) (.type "ValueError") = some true ∧ PySem.W.kitOne X.K (.ref (p.xa k)) (.ref (p.xa j)) = some true
  vex : ∀ x, c.gl.lookup x = some .vex → x = "ValueError" ∧ X.mg x = none
structure Good (p : Px) (T : Tbl) (call : CallF) (lv : Nat) (c : Cn) (Wx : WX) (X : Cx) (sc : Scope) : Prop where
  hK : p.K = X.K
  kd : KdOk p X
  gd : c.top = true → X.A.guards = some []
  sc : X.env.scope = sc
  N : X.N = c.N
  nd : c.N.Nodup
  calm : X.calm = true
  tk : Takes X Wx
  own : PassesOwn (model X.prog X.w) X.A X.env X.xe
  room : Room (lv + 1) X.A
  fs : Facts p T call lv c X
section
variable {p : Px} {T : Tbl} {call : CallF} {lv : Nat} {c : Cn} {Wx : WX} {X : Cx} {sc : Scope}
theorem Good.hu (G : Good p T call lv c Wx X sc) : X.A.units + 64 < cLine := G.room.units
theorem Good.r0 (G : Good p T call lv c Wx X sc) : Room lv X.A := G.room.mono (Nat.le_succ _)
theorem isGl_ok (G : Good p T call lv c Wx X sc) {x : Str} (h : isGl sc x = true) : Gl X x ∧ (x == ("__debug__" : Str)) = false ∧ x ≠ ("__name__" : Str) := by
  unfold isGl at h
  simp only [Bool.and_eq_true, decide_eq_true_eq, Bool.not_eq_true'] at h
  obtain ⟨⟨a, b⟩, d⟩ := h
  refine ⟨?_, b, d⟩
  show X.env.scope.names.lookup x = _
  rw [G.sc]; exact a
theorem isVis_ok (G : Good p T call lv c Wx X sc) {x : Str} (h : isVis sc x = true) : Vis X.env.scope x ∧ (x == ("__debug__" : Str)) = false ∧ (x == ("__classdict__" : Str)) = false := by
  unfold isVis at h
  simp only [Bool.and_eq_true, Bool.not_eq_true'] at h
  obtain ⟨⟨a, b⟩, d⟩ := h
  refine ⟨?_, b, d⟩
  unfold Vis
  rw [G.sc]
  split at a
  · rename_i e; exact .inl e
  · rename_i e; exact .inr (.inl e)
  · rename_i e; exact .inr (.inr e)
  · cases a
theorem name_ok (G : Good p T call lv c Wx X sc) {x : Str} {e' : E} {pos : Pos} (h : cName c sc x = some e') : PE X (.Name x pos) (tV p Wx T call e') := by
  unfold cName at h
  split at h
  · rename_i hv
    obtain ⟨a, b, d⟩ := isVis_ok G hv
    simp only [Option.map_eq_some_iff] at h
    obtain ⟨i, hi, rfl⟩ := h
    obtain ⟨_, hi⟩ := ixOf_get hi
    exact e_var (pe_var (by rw [G.N]; simpa using hi) a b d)
  · split at h
    · rename_i hg
      obtain ⟨a, b, d⟩ := isGl_ok G hg
      split at h
      · rename_i w e
        cases h
        obtain ⟨u, v, h1, h2, h3⟩ := G.fs.val x w e
        exact e_cst (pe_glob a h1 h2 b) fun α H Q q σ => q v (h3 α H)
      · cases h
    · cases h
theorem tgN_ok (G : Good p T call lv c Wx X sc) {cl : Str → Bool} (hcl : ∀ x, cl x = true → X.fn x = true) {e : Expr} {i : Nat} (h : cTgN c cl sc e = some i) : ∃ x pos, e = .Name x pos ∧ X.N[i]? = some x ∧ Loc X.env.scope x ∧ (X.fn x = true ∨ X.env.scope.names.lookup x = some .local) := by
  cases e <;> simp only [cTgN] at h <;> try cases h
  rename_i x pos
  split at h
  · rename_i hl
    obtain ⟨_, hi⟩ := ixOf_get h
    refine ⟨x, pos, rfl, by rw [G.N]; simpa using hi, ?_⟩
    rw [G.sc]
    unfold isTg isLoc at hl
    simp only [Bool.or_eq_true, Bool.and_eq_true, decide_eq_true_eq] at hl
    rcases hl with hl | ⟨hl, hf⟩
    · exact ⟨.inl hl, .inr hl⟩
    · exact ⟨.inr hl, .inl (hcl x hf)⟩
  · cases h
theorem tg1 (G : Good p T call lv c Wx X sc) {cl : Str → Bool} (hcl : ∀ x, cl x = true → X.fn x = true) {e : Expr} {i : Nat} (h : cTgN c cl sc e = some i) : PG X e (gName i) := by
  obtain ⟨x, pos, rfl, h1, h2, h3⟩ := tgN_ok G hcl h
  exact pg_name (by rw [G.N]; exact G.nd) h1 h2 h3
theorem tgs_ok (G : Good p T call lv c Wx X sc) {cl : Str → Bool} (hcl : ∀ x, cl x = true → X.fn x = true) : ∀ {es : List Expr} {l : List Nat}, cTgs c cl sc es = some l → PGs X es (gAll l) ∧ (assignEach es X.env).length = l.length ∧ (assignEach es X.env).findIdx? (·.1) = none
  | [], l, h => by
    simp only [cTgs, Option.some.injEq] at h
    subst h
    exact ⟨pgs_nil, rfl, rfl⟩
  | e :: r, l, h => by
    simp only [cTgs] at h
    split at h
    · rename_i i l' h1 h2
      cases h
      obtain ⟨a, b, d⟩ := tgs_ok G hcl h2
      obtain ⟨x, pos, rfl, _, _⟩ := tgN_ok G hcl h1
      have e0 : assignEach (.Name x pos :: r) X.env = (false, assign (.Name x pos) X.env) :: assignEach r X.env := rfl
      refine ⟨pgs_cons (tg1 G hcl h1) a rfl, ?_, ?_⟩
      · rw [e0]; simp [b]
      · rw [e0, List.findIdx?_cons, d]; rfl
    · cases h
theorem tg_ok (G : Good p T call lv c Wx X sc) {cl : Str → Bool} (hcl : ∀ x, cl x = true → X.fn x = true) {e : Expr} {t : Tg} (h : cTg c cl sc e = some t) : PG X e (gT p.K t) := by
  cases e <;> simp only [cTg] at h <;> try cases h
  · simp only [Option.map_eq_some_iff] at h
    obtain ⟨i, hi, rfl⟩ := h
    exact tg1 G hcl hi
  · simp only [Option.map_eq_some_iff] at h
    obtain ⟨l, hl, rfl⟩ := h
    obtain ⟨a, b, d⟩ := tgs_ok G hcl hl
    have hK := G.hK
    show PG X _ (gTup p.K l.length (gAll l))
    rw [hK]
    exact pg_tup G.calm a b d
theorem own_ok : ∀ {names : List (Str × NameKind)} {own : List (Str × Nat)}, cOwn c names = some own → True := fun _ => trivial
/-- the block's context is good, too -/
theorem Good.blk (G : Good p T call lv c Wx X sc) (scope : Scope) (s : Shared) (H : Hp) (C : Addr) (cl : List (Str × Addr)) (fp : List Addr) : Good p T call lv c WF (X.blk s H scope (compEnvC scope cl C X.env) fp) (relS scope sc) where
  hK := G.hK
  kd := G.kd
  gd := G.gd
  sc := by
    have : (compEnvC scope cl C X.env).scope = relS scope X.env.scope := rfl
    rw [← G.sc]; exact this
  N := G.N
  nd := G.nd
  calm := G.calm
  tk := takes0
  own := PassesOwn.never
  room := G.room
  fs := ⟨fun x i h => let ⟨f, a, b⟩ := G.fs.fn x i h; ⟨f, a, ⟨b.ex, b.kp⟩⟩, fun x k h => let ⟨a, b, d⟩ := G.fs.cls x k h; ⟨a, ⟨b.ex, b.lt⟩, d⟩, G.fs.val, G.fs.exc, G.fs.blt, G.fs.ty, ⟨fun k cl m f h1 h2 => let ⟨a, b, d, e⟩ := G.fs.m.m k cl m f h1 h2; ⟨a, b, d, ⟨e.ex, e.kp⟩⟩⟩, G.fs.fld, G.fs.kit, G.fs.sup, G.fs.vex⟩
/-- within try -/
theorem Good.tr (G : Good p T call lv c Wx X sc) {W : WX} {pn : List (Addr × Obj)} {xe : Value → Shared → Prop} (tk : Takes (X.tr pn xe) W) (own : PassesOwn (model X.prog X.w) X.A X.env xe) : Good p T call lv c W (X.tr pn xe) sc where
  hK := G.hK
  kd := G.kd
  gd := G.gd
  sc := G.sc
  N := G.N
  nd := G.nd
  calm := G.calm
  tk := tk
  own := own
  room := G.room
  fs := ⟨fun x i h => let ⟨f, a, b⟩ := G.fs.fn x i h; ⟨f, a, ⟨b.ex, b.kp⟩⟩, fun x k h => let ⟨a, b, d⟩ := G.fs.cls x k h; ⟨a, ⟨b.ex, b.lt⟩, d⟩, G.fs.val, G.fs.exc, G.fs.blt, G.fs.ty, ⟨fun k cl m f h1 h2 => let ⟨a, b, d, e⟩ := G.fs.m.m k cl m f h1 h2; ⟨a, b, d, ⟨e.ex, e.kp⟩⟩⟩, G.fs.fld, G.fs.kit, G.fs.sup, G.fs.vex⟩
/-- a built-in -/
theorem b_ok (G : Good p T call lv c Wx X sc) {x : Str} {b : Blt} (hg : isGl sc x = true) (h : c.gl.lookup x = some (.blt b)) : x = b.name ∧ Gl X b.name ∧ X.mg b.name = none := by
  obtain ⟨e, m⟩ := G.fs.blt x b h
  subst e
  exact ⟨rfl, (isGl_ok G hg).1, m⟩
theorem starE {e : Expr} {env : PySem.Env} (h : notStar e = true) : starEach [e] env = [(false, eval e env)] := star_cons h
theorem notMark {op : CmpOp} {b : Expr} (h : notSet b = true) : behindInMarks op b = false := by
  cases b <;> first | rfl | (simp [notSet] at h; done)
theorem notMark2 {o o2 : CmpOp} {b d : Expr} (h : notSet d = true) : lastMarks [o, o2] [b, d] = false := by
  show behindInMarks o2 d = false
  exact notMark h
theorem plainIx {i : Expr} (h : notSlice i = true) : PlainIx i := by
  intro o v
  cases i <;> first | rfl | (simp [notSlice] at h; done)
theorem testPlain {e : Expr} {env : PySem.Env} (h : isTestPlain e = true) : ∀ whole, isTrue e env whole = (do let v ← whole; standAt e.pos; holding [v] (truthy v)) := by
  intro whole
  cases e <;> first | rfl | (simp [isTestPlain] at h; done) | skip
  rename_i op a pos
  cases op <;> first | rfl | (simp [isTestPlain] at h; done)
theorem nmS_id (f : Str) : nmS f.cps.toList = f := by
  cases f; rfl
theorem foldPlain {iter : Expr} (h : notSet iter = true) : ∀ env x, foldedSetIterable iter env x = pure x := by
  intro env x
  cases iter <;> first | rfl | (simp [notSet] at h; done)
end
end Dl

/-! DlN: expressions: the induction. -/
namespace Dl
open PySem L2
section
variable {p : Px} {T : Tbl} {call : CallF} {lv : Nat} {c : Cn}
structure Snd (p : Px) (T : Tbl) (call : CallF) (lv : Nat) (c : Cn) (r : Rec) : Prop where
  e : ∀ {Wx X sc}, Good p T call lv c Wx X sc → ∀ {e e'}, r.e sc e = some e' → PE X e (tV p Wx T call e')
  el : ∀ {Wx X sc}, Good p T call lv c Wx X sc → ∀ {es es'}, r.el sc es = some es' → PA X es (tL p Wx T call es') ∧ es.all notStar = true ∧ (es = [] → es' = .nil) ∧ ∀ {ρ g ws g'}, evl T call es' ρ g = .ok ws g' → ws.length = es.length
  b : ∀ {Wx X sc}, Good p T call lv c Wx X sc → ∀ {op vs e' pos}, r.b sc op vs = some e' → PE X (.BoolOp op vs pos) (tV p Wx T call e')
  t : ∀ {Wx X sc}, Good p T call lv c Wx X sc → ∀ {e e'}, r.t sc e = some e' → PT X e (tQ p Wx T call e')
  bt : ∀ {Wx X sc}, Good p T call lv c Wx X sc → ∀ {op vs e' pos}, r.bt sc op vs = some e' → PW X (.BoolOp op vs pos) (tQ p Wx T call e')
  i : ∀ {Wx X sc}, Good p T call lv c Wx X sc → ∀ {e e'}, r.i sc e = some e' → PE X e (tI p Wx T call e') ∧ (isLC e = true → PE X e (tV p Wx T call e'))
  s : ∀ {Wx X sc}, Good p T call lv c Wx X sc → ∀ {tg e s'}, r.s sc tg e = some s' → PI X tg e (tC p Wx T call s')
theorem oMap {α β : Type} {f : α → β} {o : Option α} {b : β} (h : o.map f = some b) : ∃ a, o = some a ∧ f a = b := Option.map_eq_some_iff.mp h
theorem snd_el {r : Rec} (ih : Snd p T call lv c r) {Wx : WX} {X : Cx} {sc : Scope} (G : Good p T call lv c Wx X sc) {es : List Expr} {es' : EL} (h : nEL r sc es = some es') :
    PA X es (tL p Wx T call es') ∧ es.all notStar = true ∧ (es = [] → es' = .nil) ∧ ∀ {ρ g ws g'}, evl T call es' ρ g = .ok ws g' → ws.length = es.length := by
  cases es with
  | nil =>
    simp only [nEL, Option.some.injEq] at h
    subst h
    refine ⟨a_nil, rfl, fun _ => rfl, ?_⟩
    intro ρ g ws g' h
    simp only [evl] at h
    cases h; rfl
  | cons e r =>
    simp only [nEL] at h
    split at h
    · rename_i hs
      split at h
      · rename_i e' r' h1 h2
        cases h
        obtain ⟨a, b, _, d⟩ := ih.el G h2
        refine ⟨a_cons (ih.e G h1) a (star_cons hs), by simp [hs, b], fun z => (by cases z), ?_⟩
        intro ρ g ws g' h
        simp only [evl] at h
        cases h3 : ev T call e' ρ g with
        | err => rw [h3] at h; cases h
        | exc _ _ => rw [h3] at h; cases h
        | ok x g1 =>
          rw [h3] at h
          simp only [R.bind] at h
          cases h4 : evl T call r' ρ g1 with
          | err => rw [h4] at h; cases h
          | exc _ _ => rw [h4] at h; cases h
          | ok xs g2 =>
            rw [h4] at h
            cases h
            simp [d h4]
      · cases h
    · cases h
theorem snd_b {r : Rec} (ih : Snd p T call lv c r) {Wx : WX} {X : Cx} {sc : Scope} (G : Good p T call lv c Wx X sc) {op : BoolOp} {vs : List Expr} {e' : E} {pos : Pos} (h : nB r sc op vs = some e') : PE X (.BoolOp op vs pos) (tV p Wx T call e') := by
  unfold nB at h
  split at h
  · cases h
  · exact pe_one (ih.e G h)
  · split at h
    · rename_i h1 h2
      cases h
      cases op with
      | And => exact e_and (ih.e G h1) (ih.b G h2)
      | Or => exact e_or (ih.e G h1) (ih.b G h2)
    · cases h
theorem snd_bt {r : Rec} (ih : Snd p T call lv c r) {Wx : WX} {X : Cx} {sc : Scope} (G : Good p T call lv c Wx X sc) {op : BoolOp} {vs : List Expr} {e' : E} {pos : Pos} (h : nBT r sc op vs = some e') : PW X (.BoolOp op vs pos) (tQ p Wx T call e') := by
  unfold nBT at h
  split at h
  · cases h
  · cases op with
    | And => exact pw_and1 (ih.t G h)
    | Or => exact pw_or1 (ih.t G h)
  · split at h
    · rename_i h1 h2
      cases h
      cases op with
      | And => exact t_and (ih.t G h1) (ih.bt G h2)
      | Or => exact t_or (ih.t G h1) (ih.bt G h2)
    · cases h
theorem snd_cmp {r : Rec} (ih : Snd p T call lv c r) {Wx : WX} {X : Cx} {sc : Scope} (G : Good p T call lv c Wx X sc) {a b : Expr} {a' b' : E} {op : CmpOp} {pos : Pos} (h1 : r.e sc a = some a') (h2 : r.e sc b = some b') (hb : notSet b = true) :
    PE X (.Compare a [op] [b] pos) (tV p Wx T call (.cmp (cCop op) a' b')) ∧ PT X (.Compare a [op] [b] pos) (tQ p Wx T call (.cmp (cCop op) a' b')) := by
  have k1 := e_cmp (o := cCop op) (pos := pos) G.hK G.kd G.hu (ih.e G h1) (ih.e G h2) (notMark hb)
  have k2 := t_cmp (o := cCop op) (pos := pos) G.hK G.kd G.hu (ih.e G h1) (ih.e G h2) (notMark hb)
  rw [cCop_ok] at k1 k2
  exact ⟨k1, k2⟩
theorem snd_chain {r : Rec} (ih : Snd p T call lv c r) {Wx : WX} {X : Cx} {sc : Scope} (G : Good p T call lv c Wx X sc) {a b d : Expr} {a' b' d' : E} {op op2 : CmpOp} {pos : Pos} (h1 : r.e sc a = some a') (h2 : r.e sc b = some b') (h3 : r.e sc d = some d') (hd : notSet d = true) :
    PE X (.Compare a [op, op2] [b, d] pos) (tV p Wx T call (.chain (cCop op) (cCop op2) a' b' d')) ∧ PT X (.Compare a [op, op2] [b, d] pos) (tQ p Wx T call (.chain (cCop op) (cCop op2) a' b' d')) := by
  have k1 := e_chain (o := cCop op) (o' := cCop op2) (pos := pos) G.hK G.kd G.hu (ih.e G h1) (ih.e G h2) (ih.e G h3) (notMark2 hd)
  have k2 := t_chain (o := cCop op) (o' := cCop op2) (pos := pos) G.hK G.kd G.hu (ih.e G h1) (ih.e G h2) (ih.e G h3) (notMark2 hd)
  rw [cCop_ok, cCop_ok] at k1 k2
  exact ⟨k1, k2⟩
theorem snd_c {r : Rec} (ih : Snd p T call lv c r) {Wx : WX} {X : Cx} {sc : Scope} (G : Good p T call lv c Wx X sc) {a : Expr} {ops : List CmpOp} {bs : List Expr} {e' : E} {pos : Pos} (h : nCmp r sc a ops bs = some e') :
    PE X (.Compare a ops bs pos) (tV p Wx T call e') ∧ PT X (.Compare a ops bs pos) (tQ p Wx T call e') := by
  unfold nCmp at h
  split at h
  · split at h
    · rename_i hb
      split at h
      · rename_i h1 h2; cases h; exact snd_cmp ih G h1 h2 hb
      · cases h
    · cases h
  · split at h
    · rename_i hb
      simp only [Bool.and_eq_true] at hb
      split at h
      · rename_i h1 h2 h3; cases h; exact snd_chain ih G h1 h2 h3 hb.2
      · cases h
    · cases h
  · cases h
theorem snd_t {r : Rec} (ih : Snd p T call lv c r) {Wx : WX} {X : Cx} {sc : Scope} (G : Good p T call lv c Wx X sc) {e : Expr} {e' : E} (h : nT r sc e = some e') : PT X e (tQ p Wx T call e') := by
  unfold nT at h
  split at h
  · obtain ⟨a, h1, rfl⟩ := oMap h
    exact t_not (ih.t G h1)
  · exact (ih.bt G h).pt
  · exact (snd_c ih G h).2
  · split at h
    · rename_i hp
      split at h
      · rename_i e1 he
        split at h
        · rename_i hq
          cases h
          exact t_truth G.hK hq (ih.e G he) (testPlain hp)
        · cases h
      · cases h
    · cases h
theorem ev_comp {vs : List Nat} {t : Tg} {s : Src} {d el : E} (ρ : Env) (g : G) : ev T call (.comp vs t s d el) ρ g = (its T call (.comp vs t s d el) ρ g).bind fun ws g2 => .ok (.ref g2.length) (g2 ++ [.lst ws]) := by
  simp only [ev, its]
  cases src T call s ρ g with
  | ok cur g1 => cases cur <;> rfl
  | exc _ _ => rfl
  | err => rfl
theorem snd_comp {r : Rec} (ih : Snd p T call lv c r) {Wx : WX} {X : Cx} {sc : Scope} (G : Good p T call lv c Wx X sc) {elt tg iter : Expr} {ifs : List Expr} {scope : Scope} {pos : Pos} {own : List (Str × Nat)} {t : Tg} {s : Src} {d el : E}
    (h2 : cTg c (clB scope) (relS scope sc) tg = some t) (h3 : r.s sc tg iter = some s) (h4 : nIfs r (relS scope sc) ifs = some d) (h5 : r.e (relS scope sc) elt = some el) (hb : blkC c.N sc scope own = true) (ht : t.slots.all (fun i => (own.map (·.2)).contains i) = true) (hi : notSet iter = true) :
    PE X (.ListComp elt [⟨tg, iter, ifs, 0⟩] scope pos) (tN p Wx (its T call (.comp (own.map (·.2)) t s d el))) := by
  refine comp_core G.hK ?_ fun i hm => by simpa using List.all_eq_true.mp ht i hm
  rintro wi g tt te rfl rfl rfl rfl
  have hK := G.hK
  refine pe_lc G.calm (by rw [G.N]; exact G.nd) (ih.s G h3) (by rw [G.N, G.sc]; exact blkOk_by hb) (fun s H C cl fp => ?_) (fun s H C cl fp => ?_) (fun s H C cl fp => ?_) (foldPlain hi _)
  · exact tg_ok (cl := clB scope) (G.blk scope s H C cl fp) (fun x hx => hx) h2
  · unfold nIfs at h4
    split at h4
    · cases h4
      refine ⟨fun pins s σ H Q I ⟨α, ρ, g, S, E, q⟩ => pts_nil.run pins s σ H Q I ?_⟩
      simp only [tst, ev, R.bind, R.of, truthW] at q
      exact post.ok q S rfl
    · exact pts_one (ih.t (G.blk scope s H C cl fp) h4)
    · cases h4
  · exact ih.e (G.blk scope s H C cl fp) h5
theorem snd_i {r : Rec} (ih : Snd p T call lv c r) {Wx : WX} {X : Cx} {sc : Scope} (G : Good p T call lv c Wx X sc) {e : Expr} {e' : E} (h : nI c r sc e = some e') :
    PE X e (tI p Wx T call e') ∧ (isLC e = true → PE X e (tV p Wx T call e')) := by
  unfold nI at h
  split at h
  · split at h
    · rename_i hl
      obtain ⟨es', h1, rfl⟩ := oMap h
      obtain ⟨a, b, _, d⟩ := ih.el G h1
      exact ⟨items_of (i_lst a hl d), fun z => (by cases z)⟩
    · cases h
  · split at h
    · rename_i elt _ scope pos _ tg iter ifs
      unfold nLC at h
      split at h
      · rename_i own t s d el h1 h2 h3 h4 h5
        split at h
        · rename_i hc
          simp only [Bool.and_eq_true] at hc
          obtain ⟨⟨hb, ht⟩, hi⟩ := hc
          cases h
          have k := snd_comp (pos := pos) ih G h2 h3 h4 h5 hb ht hi
          refine ⟨items_of k, fun _ => ?_⟩
          have k2 := alloc_of k
          have : (fun ρ g => (its T call (.comp (own.map (·.2)) t s d el) ρ g).bind fun ws g2 => R.ok (W.ref g2.length) (g2 ++ [Ob.lst ws])) = ev T call (.comp (own.map (·.2)) t s d el) := by
            funext ρ g
            rw [ev_comp]
          rw [this] at k2
          exact k2
        · cases h
      · cases h
    · cases h
  · split at h
    · rename_i e1 he
      split at h
      · rename_i hp
        cases h
        exact ⟨i_plain hp (ih.e G he), fun _ => ih.e G he⟩
      · cases h
    · cases h
theorem one_arg {r : Rec} (ih : Snd p T call lv c r) {Wx : WX} {X : Cx} {sc : Scope} (G : Good p T call lv c Wx X sc) {a : Expr} {a' : E} (h : r.e sc a = some a') (hs : notStar a = true) : PA X [a] (tL p Wx T call (.cons a' .nil)) := a_cons (ih.e G h) a_nil (star_cons hs)
theorem two_arg {r : Rec} (ih : Snd p T call lv c r) {Wx : WX} {X : Cx} {sc : Scope} (G : Good p T call lv c Wx X sc) {a b : Expr} {a' b' : E} (h : r.e sc a = some a') (h2 : r.e sc b = some b') (hs : notStar a = true) (hs2 : notStar b = true) : PA X [a, b] (tL p Wx T call (.cons a' (.cons b' .nil))) :=
  a_cons (ih.e G h) (one_arg ih G h2 hs2) (star_cons hs)
theorem isTup_ok {e : Expr} (h : isTup e = true) : ∃ es k q, e = .Tuple es k q := by
  cases e <;> simp [isTup] at h
  exact ⟨_, _, _, rfl⟩
theorem sKind_ok {Wx : WX} {X : Cx} {sc : Scope} (G : Good p T call lv c Wx X sc) {e : Expr} {b : Blt} {k : SK} (h : sKind c sc e = k) (hk : (k = .range ∧ b = .range) ∨ (k = .enumerate ∧ b = .enumerate) ∨ (k = .zip ∧ b = .zip)) : ∃ q pos, e = .Call (.Name b.name q) (sArgs e) [] pos ∧ Gl X b.name ∧ X.mg b.name = none := by
  unfold sKind at h
  split at h
  · rename_i x q args pos
    split at h
    · rename_i hg
      split at h
      · rename_i hl
        subst h
        rcases hk with ⟨_, rfl⟩ | ⟨e, _⟩ | ⟨e, _⟩
        · obtain ⟨rfl, g1, m1⟩ := b_ok G hg hl
          exact ⟨q, pos, rfl, g1, m1⟩
        · cases e
        · cases e
      · rename_i hl
        subst h
        rcases hk with ⟨e, _⟩ | ⟨_, rfl⟩ | ⟨e, _⟩
        · cases e
        · obtain ⟨rfl, g1, m1⟩ := b_ok G hg hl
          exact ⟨q, pos, rfl, g1, m1⟩
        · cases e
      · rename_i hl
        subst h
        rcases hk with ⟨e, _⟩ | ⟨e, _⟩ | ⟨_, rfl⟩
        · cases e
        · cases e
        · obtain ⟨rfl, g1, m1⟩ := b_ok G hg hl
          exact ⟨q, pos, rfl, g1, m1⟩
      · subst h
        rcases hk with ⟨e, _⟩ | ⟨e, _⟩ | ⟨e, _⟩ <;> cases e
    · subst h
      rcases hk with ⟨e, _⟩ | ⟨e, _⟩ | ⟨e, _⟩ <;> cases e
  · subst h
    rcases hk with ⟨e, _⟩ | ⟨e, _⟩ | ⟨e, _⟩ <;> cases e
theorem snd_s {r : Rec} (ih : Snd p T call lv c r) {Wx : WX} {X : Cx} {sc : Scope} (G : Good p T call lv c Wx X sc) {tg e : Expr} {s' : Src} (h : nS c r sc tg e = some s') : PI X tg e (tC p Wx T call s') := by
  unfold nS at h
  split at h
  · rename_i hk
    obtain ⟨q, pos, e1, g1, m1⟩ := sKind_ok (b := .range) G hk (.inl ⟨rfl, rfl⟩)
    rw [e1]
    split at h
    · rename_i a ea
      rw [ea]
      split at h
      · rename_i hs
        obtain ⟨a', h1, rfl⟩ := oMap h
        exact s_rng1 g1 m1 (one_arg ih G h1 hs) (starE hs)
      · cases h
    · rename_i a b ea
      rw [ea]
      split at h
      · rename_i hs
        simp only [Bool.and_eq_true] at hs
        split at h
        · rename_i h1 h2
          cases h
          exact s_rng2 g1 m1 (two_arg ih G h1 h2 hs.1 hs.2) (by rw [star_cons hs.1, starE hs.2]) (starE hs.2)
        · cases h
      · cases h
    · cases h
  · rename_i hk
    obtain ⟨q, pos, e1, g1, m1⟩ := sKind_ok (b := .enumerate) G hk (.inr (.inl ⟨rfl, rfl⟩))
    rw [e1]
    split at h
    · rename_i a ea
      rw [ea]
      split at h
      · rename_i hs
        simp only [Bool.and_eq_true] at hs
        obtain ⟨es, k, tq, rfl⟩ := isTup_ok hs.2
        obtain ⟨a', h1, rfl⟩ := oMap h
        exact s_enum G.hK g1 m1 (one_arg ih G h1 hs.1) (starE hs.1)
      · cases h
    · cases h
  · rename_i hk
    obtain ⟨q, pos, e1, g1, m1⟩ := sKind_ok (b := .zip) G hk (.inr (.inr ⟨rfl, rfl⟩))
    rw [e1]
    split at h
    · rename_i a b ea
      rw [ea]
      split at h
      · rename_i hs
        simp only [Bool.and_eq_true] at hs
        obtain ⟨es, k, tq, rfl⟩ := isTup_ok hs.2
        split at h
        · rename_i h1 h2
          cases h
          exact s_zip G.hK g1 m1 (two_arg ih G h1 h2 hs.1.1 hs.1.2) (star_cons hs.1.1) (back_any (star_all (by simp [hs.1.2])))
        · cases h
      · cases h
    · cases h
  · obtain ⟨a', h1, rfl⟩ := oMap h
    exact s_seq G.hK (ih.e G h1)
/-! ### calls -/
theorem snd_blt1 {r : Rec} (ih : Snd p T call lv c r) {Wx : WX} {X : Cx} {sc : Scope} (G : Good p T call lv c Wx X sc) {b : Blt} {a : Expr} {e' : E} {q pos : Pos} (hg : Gl X b.name) (hm : X.mg b.name = none) (hs : notStar a = true) (h : nBlt1 c r sc b a = some e') : PE X (.Call (.Name b.name q) [a] [] pos) (tV p Wx T call e') := by
  have na : starEach [a] X.env = (false, eval a X.env) :: starEach [] X.env := star_cons hs
  have i1 : ∀ {a' : E}, r.i sc a = some a' → PA X [a] (tCons (tI p Wx T call a') tNil) := fun h1 => pa_cons (ih.i G h1).1 pa_nil na
  have e1 : ∀ {a' : E}, r.e sc a = some a' → PA X [a] (tCons (tV p Wx T call a') tNil) := fun h1 => pa_cons (ih.e G h1) pa_nil na
  have hK := G.hK
  have hc := G.calm
  unfold nBlt1 at h
  split at h
  · split at h
    · rename_i ht
      obtain ⟨a', h1, rfl⟩ := oMap h
      refine e_b1 (a := a) (fun x H Q => ∃ a d, [x] = [V.ref a] ∧ Dp X.K H (.ref a) d ∧ d.showable = true ∧ d.hasDict = false ∧ d.depth ≤ 60 ∧ d.shown.length ≤ sizeLine ∧ Q (.str d.shown) H) (pe_callB (call_reprD (G.gd ht) G.hu) hg hm rfl (e1 h1) (by decide) (by decide) na rfl) ?_
      intro α H g w v k Q S R1 e q
      obtain ⟨a, d, rfl, h1, h2, h3, h4, h5, rfl⟩ := run_repr hK S R1 e
      exact ⟨a, d, rfl, h1, h2, h3, h4, h5, q _ (by simp only [RepV])⟩
    · cases h
  · obtain ⟨a', h1, rfl⟩ := oMap h
    refine e_b1 (a := a) (fun x H Q => ∃ i : Int, [x] = [V.int i] ∧ Q (.int (if i < 0 then -i else i)) H) (pe_callB call_abs hg hm rfl (e1 h1) (by decide) (by decide) na rfl) ?_
    intro α H g w v k Q S R1 e q
    obtain ⟨i, rfl, rfl⟩ := run_abs R1 e
    exact ⟨i, rfl, q _ .int⟩
  · obtain ⟨a', h1, rfl⟩ := oMap h
    refine e_b1 (a := a) (fun x H Q => (∃ i : Int, [x] = [V.int i] ∧ Q (.int i) H) ∨ ∃ k : Bool, [x] = [V.bl k] ∧ Q (.int (if k then 1 else 0)) H) (pe_callTy call_int1 hg hm rfl (e1 h1) (by decide) (by decide) na rfl) ?_
    intro α H g w v k Q S R1 e q
    rcases run_int1 R1 e with ⟨i, rfl, rfl⟩ | ⟨i, rfl, rfl⟩
    · exact .inl ⟨i, rfl, q _ .int⟩
    · exact .inr ⟨i, rfl, q _ .int⟩
  · obtain ⟨a', h1, rfl⟩ := oMap h
    refine e_b1 (a := a) (fun y H Q => ∃ x, [y] = [x] ∧ ((∃ n, LenV X.K x H n ∧ Q (.int n) H) ∨ ∃ a kvs, x = .ref a ∧ Rd H a (.dK kvs) ∧ Q (.int kvs.length) H)) (pe_callB (call_lenA hK) hg hm rfl (e1 h1) (by decide) (by decide) na rfl) ?_
    intro α H g w v k Q S R1 e q
    rcases run_len hK S R1 e with ⟨n, l, rfl⟩ | ⟨a, kvs, rfl, l, rfl⟩
    · exact ⟨v, rfl, .inl ⟨n, l, q _ .int⟩⟩
    · exact ⟨_, rfl, .inr ⟨a, kvs, rfl, l, q _ .int⟩⟩
  · obtain ⟨a', h1, rfl⟩ := oMap h
    exact e_bs (a := a) _ (pe_callB (cr_any hc) hg hm rfl (i1 h1) (by decide) (by decide) na rfl) fun α H g D vs ws σ Q S L rs q => bs_any hK S L rs q
  · obtain ⟨a', h1, rfl⟩ := oMap h
    exact e_bs (a := a) _ (pe_callB (cr_all hc) hg hm rfl (i1 h1) (by decide) (by decide) na rfl) fun α H g D vs ws σ Q S L rs q => bs_all hK S L rs q
  · obtain ⟨a', h1, rfl⟩ := oMap h
    exact e_bs (a := a) _ (pe_callB (cr_sum hc) hg hm rfl (i1 h1) (by decide) (by decide) na rfl) fun α H g D vs ws σ Q S L rs q => bs_sum hK S L rs q
  · obtain ⟨a', h1, rfl⟩ := oMap h
    exact e_bs (a := a) _ (pe_callB (cr_max hc) hg hm rfl (i1 h1) (by decide) (by decide) na rfl) fun α H g D vs ws σ Q S L rs q => bs_max hK S L rs q
  · obtain ⟨a', h1, rfl⟩ := oMap h
    exact e_bs (a := a) _ (pe_callB (cr_min hc) hg hm rfl (i1 h1) (by decide) (by decide) na rfl) fun α H g D vs ws σ Q S L rs q => bs_min hK S L rs q
  · split at h
    · obtain ⟨a', h1, rfl⟩ := oMap h
      exact e_bs (a := a) _ (pe_callB cr_sorted hg hm rfl (i1 h1) (by decide) (by decide) na rfl) fun α H g D vs ws σ Q S L rs q => bs_sorted hK S L rs q
    · obtain ⟨a', h1, rfl⟩ := oMap h
      exact e_srt hK (pe_callB cr_sorted hg hm rfl (e1 h1) (by decide) (by decide) na rfl) (pe_callB (call_sortedDI hc) hg hm rfl (e1 h1) (by decide) (by decide) na rfl)
  · split at h
    · obtain ⟨a', h1, rfl⟩ := oMap h
      exact e_bs (a := a) _ (pe_callTy call_tuple_of hg hm rfl (i1 h1) (by decide) (by decide) na rfl) fun α H g D vs ws σ Q S L rs q => bs_tuple hK S L rs q
    · obtain ⟨a', h1, rfl⟩ := oMap h
      exact e_bt_tuple (a := a) hK (pe_callTy call_tuple_of hg hm rfl (e1 h1) (by decide) (by decide) na rfl)
  · obtain ⟨a', h1, rfl⟩ := oMap h
    exact e_bt_list (a := a) hK (pe_callTy call_list_of hg hm rfl (e1 h1) (by decide) (by decide) na rfl)
  · cases h
theorem nTy_ok {Wx : WX} {X : Cx} {sc : Scope} (G : Good p T call lv c Wx X sc) {e : Expr} {t : Ty} (h : nTy c sc e = some t) : PE X e (L2.tC (.ty t.name)) ∧ t.name ≠ "" ∧ notStar e = true := by
  have fin : ∀ {x : Str} {pos : Pos} {t : Ty}, isGl sc x = true → x = t.name → X.mg x = none → t.name ≠ "" → PE X (.Name x pos) (L2.tC (.ty t.name)) ∧ t.name ≠ "" ∧ notStar (.Name x pos) = true := by
    rintro x pos t hg rfl m n
    obtain ⟨a, b, d⟩ := isGl_ok G hg
    refine ⟨pe_bltn (u := .type t.name) a m ?_ rfl d b, n, rfl⟩
    cases t <;> first | rfl | exact (n rfl).elim
  unfold nTy at h
  split at h
  · split at h
    · rename_i hg
      split at h
      · rename_i hl
        cases h
        obtain ⟨e, m, n⟩ := G.fs.ty _ _ hl
        exact fin hg e m n
      · rename_i hl
        cases h
        obtain ⟨e, m⟩ := G.fs.blt _ _ hl
        exact fin hg e m (by decide)
      · rename_i hl
        cases h
        obtain ⟨e, m⟩ := G.fs.blt _ _ hl
        exact fin hg e m (by decide)
      · rename_i hl
        cases h
        obtain ⟨e, m⟩ := G.fs.blt _ _ hl
        exact fin hg e m (by decide)
      · cases h
    · cases h
  · cases h
theorem e_isi {X : Cx} {Wx : WX} {e : Expr} {a' : E} {t : Ty} (hK : p.K = X.K) (kk : KitOk X.K) (hd : PE X e (tCB (rIsi X.K) (tCons (tV p Wx T call a') (tCons (L2.tC (.ty t.name)) tNil)))) : PE X e (tV p Wx T call (.isi a' t)) :=
  PE.by fun σ H Q ⟨α, ρ, g, S, E, q⟩ => by
    refine ⟨_, hd, α, ρ, g, S, E, ?_⟩
    simp only [ev] at q
    refine (post.bind (Rq := RepV p) q).imp fun x H1 _ ⟨α1, g1, w, K1, S1, rx, q1⟩ => ?_
    obtain ⟨k, e1, q2⟩ := post.of q1
    obtain ⟨b, e2, rfl⟩ := oMap e1
    obtain ⟨tv, h1, h2⟩ := isTy_rep hK kk S1 rx e2
    exact ⟨x, .ty t.name, tv, .type t.name, b, rfl, .ty _, h1, h2, post.ok q2 S1 .bl⟩
theorem snd_blt2 {r : Rec} (ih : Snd p T call lv c r) {Wx : WX} {X : Cx} {sc : Scope} (G : Good p T call lv c Wx X sc) {b : Blt} {a d : Expr} {e' : E} {q pos : Pos} (hg : Gl X b.name) (hm : X.mg b.name = none) (hs : notStar a = true) (hs2 : notStar d = true) (h : nBlt2 c r sc b a d = some e') : PE X (.Call (.Name b.name q) [a, d] [] pos) (tV p Wx T call e') := by
  have na : starEach [a, d] X.env = (false, eval a X.env) :: starEach [d] X.env := star_cons hs
  have nb : (backTo pos (starEach [d] X.env)).any (·.1) = false := back_any (star_all (by simp [hs2]))
  have hK := G.hK
  have hc := G.calm
  unfold nBlt2 at h
  split at h
  · split at h
    · rename_i h1 h2
      cases h
      exact e_max2 (es := []) (pe_callB (call_max2 hc) hg hm rfl (two_arg ih G h1 h2 hs hs2) (by decide) (by decide) na nb)
    · cases h
  · split at h
    · rename_i h1 h2
      cases h
      exact e_min2 (pe_callB (call_min2 hc) hg hm rfl (two_arg ih G h1 h2 hs hs2) (by decide) (by decide) na nb)
    · cases h
  · split at h
    · rename_i h1 h2
      cases h
      obtain ⟨k1, _, k3⟩ := nTy_ok G h2
      exact e_isi hK G.fs.kit (pe_callB call_isi hg hm rfl (pa_cons (ih.e G h1) (pa_cons k1 pa_nil (star_cons hs2)) na) (by decide) (by decide) na nb)
    · cases h
  · cases h
theorem lsArg_ok {sc : Scope} {a b : Expr} (h : lsArg c sc a = some b) : ∃ y py p2, a = .Call (.Name y py) [b] [] p2 ∧ isGl sc y = true ∧ c.gl.lookup y = some (.blt .set) ∧ notStar b = true := by
  unfold lsArg at h
  split at h
  · rename_i y py b' p2
    split at h
    · rename_i hc
      simp only [Bool.and_eq_true] at hc
      split at h
      · rename_i e
        cases h
        exact ⟨y, py, p2, rfl, hc.1, e, hc.2⟩
      · cases h
    · cases h
  · cases h
theorem snd_call {r : Rec} (ih : Snd p T call lv c r) {Wx : WX} {X : Cx} {sc : Scope} (G : Good p T call lv c Wx X sc) {x : Str} {args : List Expr} {e' : E} {q pos : Pos} (h : nCall c r sc x args = some e') : PE X (.Call (.Name x q) args [] pos) (tV p Wx T call e') := by
  unfold nCall at h
  split at h
  · rename_i hg
    obtain ⟨g1, g2, g3⟩ := isGl_ok G hg
    split at h
    · rename_i i hl
      obtain ⟨es, h1, rfl⟩ := oMap h
      obtain ⟨a, b, d, _⟩ := ih.el G h1
      obtain ⟨f, m, F⟩ := G.fs.fn _ _ hl
      exact e_call F G.r0 G.tk g1 m a d b g2
    · rename_i k hl
      obtain ⟨es, h1, rfl⟩ := oMap h
      obtain ⟨a, b, d, _⟩ := ih.el G h1
      obtain ⟨m, N, kp⟩ := G.fs.cls _ _ hl
      exact e_new N kp G.room G.tk g1 m a d b g2
    · rename_i b hl
      obtain ⟨rfl, k1, k2⟩ := b_ok G hg hl
      split at h
      · split at h
        · rename_i hs
          split at h
          · rename_i d hd
            split at hd
            · rename_i hb
              subst hb
              obtain ⟨a', h1, rfl⟩ := oMap h
              obtain ⟨y, py, p2, rfl, hg2, hl2, hs2⟩ := lsArg_ok hd
              obtain ⟨rfl, k3, k4⟩ := b_ok G hg2 hl2
              exact e_lset G.hK (pe_lenTx G.calm k1 k2 k3 k4 (ih.e G h1) (star_cons hs2))
            · cases hd
          · exact snd_blt1 ih G k1 k2 hs h
        · cases h
      · split at h
        · rename_i hs
          simp only [Bool.and_eq_true] at hs
          exact snd_blt2 ih G k1 k2 hs.1 hs.2 h
        · cases h
      · cases h
    · cases h
  · cases h
theorem one_m1 {X : Cx} {o a : Expr} {m : Str} {apos pos : Pos} (ho : notCall0 o = true) (b : [a].all notStar = true) (hline : (apos.endLine == pos.line) = true) : M1 X o m apos a pos where
  base := attr_base ho
  few := by rw [back_all (star_all b)]; rfl
  line := hline
  trees := by
    simp only [List.all_cons, Bool.and_eq_true] at b
    rw [star_cons b.1]; rfl
theorem two_m2 {X : Cx} {o a d : Expr} {m : Str} {apos pos : Pos} (ho : notCall0 o = true) (b : [a, d].all notStar = true) (hline : (apos.endLine == pos.line) = true) : M2 X o m apos a d pos where
  base := attr_base ho
  few := by rw [back_all (star_all b)]; rfl
  line := hline
  trees := by
    simp only [List.all_cons, Bool.and_eq_true] at b
    rw [star_cons b.1, star_cons b.2.1]; rfl
theorem snd_meth {r : Rec} (ih : Snd p T call lv c r) {Wx : WX} {X : Cx} {sc : Scope} (G : Good p T call lv c Wx X sc) {o : Expr} {m : Str} {args : List Expr} {e' : E} {apos pos : Pos} (h : nMeth r sc o m args = some e') (ho : notCall0 o = true) (hl : args.length < 20) (hline : (apos.endLine == pos.line) = true) : PE X (.Call (.Attribute o m apos) args [] pos) (tV p Wx T call e') := by
  unfold nMeth at h
  split at h
  · rename_i o' es h1 h2
    obtain ⟨a, b, d, _⟩ := ih.el G h2
    have hK := G.hK
    have one : ∀ {nm id : String} {rr : V → List V → Hp → VK → Prop} {mm : M}, Slot "list" nm id → typeOf (.builtin id) = pure (.type "method_descriptor") → MtR X id rr → m = (nm : Str) → args.length = 1 → mm ≠ .get →
        (∀ α H g i a ws vs σ Q, Sim p α g H → α[i]? = some a → RepVs p α H ws vs → post p Wx (RepV p) (mm.runL i ws g) α H σ Q → rr (.ref a) vs H Q) → PE X (.Call (.Attribute o m apos) args [] pos) (tV p Wx T call (.mth mm o' es)) := by
      intro nm id rr mm sl ty mt em ha hm hr
      subst em
      cases args with
      | nil => simp at ha
      | cons z zs =>
        have b' := b
        simp only [List.all_cons, Bool.and_eq_true] at b'
        refine PE.by fun σ H Q ⟨α, ρ, g, S, E, q⟩ => m_list (o := o) (t := tL p Wx T call es) rr (pe_bm PySem.F.plainAttrs_list sl ty mt (ih.e G h1) a (attr_base ho) ?_ hline (star_cons b'.1) (back_any (star_all b'.2))) hK hr S E q hm
        rw [back_all (star_all b), ha]
        rfl
    split at h
    · rename_i em
      split at h
      · rename_i ha
        cases h
        exact one PySem.F.slot_list_append PySem.F.type_list_append mt_append em ha (by decide) fun α H g i a ws vs σ Q S ea rs q => ml_append S ea rs q
      · cases h
    · split at h
      · rename_i em
        split at h
        · rename_i ha
          cases h
          exact one PySem.F.slot_list_extend PySem.F.type_list_extend mt_extend em ha (by decide) fun α H g i a ws vs σ Q S ea rs q => ml_extend S ea rs q
        · cases h
      · split at h
        · rename_i em
          subst em
          split at h
          · rename_i ha
            cases h
            have := List.length_eq_zero_iff.mp ha
            subst this
            have := d rfl
            subst this
            exact m_list0 (o := o) rPop (pe_bm0 PySem.F.plainAttrs_list PySem.F.slot_list_pop PySem.F.type_list_pop mt_pop (ih.e G h1) (attr_base ho) hline) hK (fun α H g i a ws vs σ Q S ea rs q => ml_pop0 S ea rs q) (by decide)
          · split at h
            · split at h
              · rename_i ha
                cases h
                cases args with
                | nil => simp at ha
                | cons z zs =>
                  have b' := b
                  simp only [List.all_cons, Bool.and_eq_true] at b'
                  refine e_pop1 hK (pe_bm PySem.F.plainAttrs_list PySem.F.slot_list_pop PySem.F.type_list_pop mt_popAt (ih.e G h1) a (attr_base ho) ?_ hline (star_cons b'.1) (back_any (star_all b'.2)))
                  rw [back_all (star_all b), ha]
                  rfl
              · cases h
            · split at h
              · split at h
                · rename_i h3 h4
                  cases h
                  exact e_dpop (pe_dpop2 (ih.e G h1) (ih.e G h3) (ih.e G h4) (two_m2 ho b hline))
                · cases h
              · cases h
            · cases h
        · split at h
          · rename_i em
            subst em
            split at h
            · obtain ⟨a', h3, rfl⟩ := oMap h
              exact e_dget1 (pe_dget1 (by have := G.hu; omega) (ih.e G h1) (ih.e G h3) (one_m1 ho b hline))
            · split at h
              · rename_i h3 h4
                cases h
                exact e_dget (pe_dget2 (by have := G.hu; omega) (ih.e G h1) (ih.e G h3) (ih.e G h4) (two_m2 ho b hline))
              · cases h
            · cases h
          cases h
          have k := e_meth (m := m.cps.toList) (apos := apos) (pos := pos) G.fs.m G.r0 G.tk (ih.e G h1) a d b ho hl hline
          rw [nmS_id] at k
          exact k
  · cases h
theorem snd_sub {r : Rec} (ih : Snd p T call lv c r) {Wx : WX} {X : Cx} {sc : Scope} (G : Good p T call lv c Wx X sc) {a i : Expr} {e' : E} {pos : Pos} (h : nSub r sc a i = some e') : PE X (.Subscript a i pos) (tV p Wx T call e') := by
  unfold nSub at h
  split at h
  · split at h
    · rename_i h1 h2
      cases h
      exact e_slo G.hK (ih.e G h1) (ih.e G h2)
    · cases h
  · split at h
    · rename_i h1 h2
      cases h
      exact e_shi G.hK (ih.e G h1) (ih.e G h2)
    · cases h
  · split at h
    · rename_i h1 h2 h3
      cases h
      exact e_slh G.hK (ih.e G h1) (ih.e G h2) (ih.e G h3)
    · cases h
  · split at h
    · rename_i h1
      cases h
      exact e_rev G.hK (ih.e G h1)
    · cases h
  · split at h
    · rename_i hs
      split at h
      · rename_i h1 h2
        cases h
        exact e_idx G.hK G.kd G.hu (ih.e G h1) (ih.e G h2) (plainIx hs)
      · cases h
    · cases h
def flatP : List (V × V) → List V
  | [] => []
  | (a, b) :: r => a :: b :: flatP r
inductive Prs (p : Px) (Wx : WX) (T : Tbl) (call : CallF) : EL → List (TE × TE) → Prop where
  | nil : Prs p Wx T call .nil []
  | cons {k v : E} {es : EL} {trs : List (TE × TE)} (h : Prs p Wx T call es trs) : Prs p Wx T call (.cons k (.cons v es)) ((tV p Wx T call k, tV p Wx T call v) :: trs)
theorem R.bind_assoc {α β γ : Type} (r : R α) (f : α → G → R β) (k : β → G → R γ) : (r.bind f).bind k = r.bind fun a g => (f a g).bind k := by
  cases r <;> rfl
theorem prs_go {Wx : WX} {es : EL} {trs : List (TE × TE)} (P : Prs p Wx T call es trs) : ∀ {α : List Addr} {ρ : Env} {g : G} {H : Hp} {σ : St} {Q : List (V × V) → Hp → Prop}, Sim p α g H → SimSt p α H ρ σ →
    post p Wx (RepVs p) (evl T call es ρ g) α H σ (fun xs H' => ∀ ps, flatP ps = xs → Q ps H') → tPairs trs σ H Q := by
  induction P with
  | nil =>
    intro α ρ g H σ Q S E q
    simp only [evl] at q
    exact post.ok q S .nil [] rfl
  | cons h ih =>
    intro α ρ g H σ Q S E q
    refine ⟨α, ρ, g, S, E, ?_⟩
    simp only [evl] at q
    refine (post.bind (Rq := RepV p) q).imp fun x H1 _ ⟨α1, g1, w, K1, S1, r, q1⟩ => ⟨α1, ρ, g1, S1, E.mono K1, ?_⟩
    rw [R.bind_assoc] at q1
    refine (post.bind (Rq := RepV p) q1).imp fun y H2 _ ⟨α2, g2, w2, K2, S2, r2, q2⟩ => ?_
    rw [R.bind_assoc] at q2
    refine ih S2 ((E.mono K1).mono K2) ((post.bind (Rq := RepVs p) q2).imp fun xs H3 _ ⟨α3, g3, ws, K3, S3, rs, q3⟩ ps e => ?_)
    simp only [R.bind] at q3
    exact post.ok q3 S3 (.cons ((r.mono K2).mono K3) (.cons (r2.mono K3) rs)) ((x, y) :: ps) (by simp [flatP, e])
theorem pairs_rep {α : List Addr} {H : Hp} : ∀ {ps : List (V × V)} {ws : List W} {pw : List (W × W)}, pairW ws = some pw → (pw.all fun kv => fits [] kv.1) = true → RepVs p α H ws (flatP ps) →
    ∃ kvs : List (Key × V), ps = kvs.map (fun kv => (kV kv.1, kv.2)) ∧ kvs.length = pw.length ∧ ∀ a b, RepKV p α H a b → RepKV p α H (pw.foldl (fun acc kv => putD acc kv.1 kv.2) a) (mergeK b kvs)
  | [], ws, pw, h, hf, r => by
    cases ws with
    | nil =>
      simp only [pairW, Option.some.injEq] at h
      subst h
      exact ⟨[], rfl, rfl, fun a b r => r⟩
    | cons w ws =>
      obtain ⟨_, _, e, _⟩ := r.cons'
      cases e
  | (x, y) :: ps, ws, pw, h, hf, r => by
    rcases ws with _ | ⟨a, _ | ⟨b, ws⟩⟩
    · have := r.nil'
      cases this
    · simp [pairW] at h
    · simp only [pairW] at h
      obtain ⟨q, hq, rfl⟩ := oMap h
      simp only [List.all_cons, Bool.and_eq_true] at hf
      simp only [flatP] at r
      obtain ⟨_, _, e, r1, r⟩ := r.cons'
      cases e
      obtain ⟨_, _, e, r2, r⟩ := r.cons'
      cases e
      obtain ⟨kvs, e1, e2, e3⟩ := pairs_rep hq hf.2 r
      obtain ⟨κ, hκ⟩ := fits_key hf.1
      have hx := keyK_rep hκ r1
      subst hx e1
      exact ⟨(κ, y) :: kvs, rfl, by simp [e2], fun a b rr => e3 _ _ (RepKV.put hκ r2 rr)⟩
theorem Sim.adoptO {α : List Addr} {g : G} {H : Hp} {D : Addr} {o : Ob} (s : Sim p α g H) (n : D ∉ α) (r : RepO p (α ++ [D]) H D o) : Sim p (α ++ [D]) (g ++ [o]) H := by
  refine ⟨by simp [s.len], fun i o' a e1 e2 => ?_, ?_⟩
  · by_cases hi : i < g.length
    · rw [List.getElem?_append_left hi] at e1
      rw [List.getElem?_append_left (by rw [s.len]; exact hi)] at e2
      exact (s.ob i o' a e1 e2).mono ⟨[D], rfl⟩ (.refl _) rfl
    · have : i = g.length := by
        have := (List.getElem?_eq_some_iff.mp e1).1
        simp at this
        omega
      subst this
      rw [List.getElem?_append_right (Nat.le_refl _)] at e1
      rw [← s.len, List.getElem?_append_right (Nat.le_refl _)] at e2
      simp at e1 e2
      subst e1 e2
      exact r
  · rw [List.nodup_append]
    refine ⟨s.nd, by simp, fun a ha b hb => ?_⟩
    have : b = D := by simpa using hb
    subst this
    rintro rfl
    exact n ha
theorem disp_go {Wx : WX} {es : EL} {trs : List (TE × TE)} (P : Prs p Wx T call es trs) {σ : St} {H : Hp} {Q : VK} (h : tV p Wx T call (.dnew es) σ H Q) : tDisp trs σ H Q := by
  obtain ⟨α, ρ, g, S, E, q⟩ := h
  intro D hD
  have nD : D ∉ α := fun hm => by
    obtain ⟨u, hu⟩ := S.trk hm
    rw [hD] at hu; cases hu
  refine prs_go P (S.junk hD) (E.mono (.junk hD)) ?_
  simp only [ev] at q
  cases hr : evl T call es ρ g with
  | err => rw [hr] at q; exact q
  | exc c g1 => rw [hr] at q; exact fun α' H' k s => q α' H' ((Kp.junk hD).trans k) s
  | ok ws g1 =>
    rw [hr] at q
    simp only [R.bind] at q
    intro α1 H1 xs K1 S1 rs ps ep
    obtain ⟨hD1, nD1⟩ := K1.fr D _ upd_same nD
    split at q
    · rename_i pw hp
      split at q
      · rename_i hc
        subst ep
        obtain ⟨kvs, e1, e2, e3⟩ := pairs_rep hp hc.2 rs
        refine ⟨hD1, kvs, e1, by rw [e2]; exact hc.1, ?_⟩
        have mu : Mut (H1 D) := by rw [hD1]; exact trivial
        have kw : Keep H1 (upd H1 D (.dK (mergeK [] kvs))) := .write mu
        have hk : Kp α H (α1 ++ [D]) (upd H1 D (.dK (mergeK [] kvs))) := ⟨K1.pre.trans ⟨[D], rfl⟩, (Kp.junk (α := α) hD).kp.trans (K1.kp.trans kw), fun a u e n => by
          have ne : a ≠ D := ne_of_none e hD
          obtain ⟨x1, x2⟩ := K1.fr a u (by rw [upd_ne ne]; exact e) n
          refine ⟨by rw [upd_ne ne]; exact x1, fun hm => ?_⟩
          rcases List.mem_append.mp hm with hm | hm
          · exact x2 hm
          · exact ne (by simpa using hm)⟩
        have S2 : Sim p α1 g1 (upd H1 D (.dK (mergeK [] kvs))) := S1.mono kw fun a u _ _ ha => by
          rw [upd_ne]
          rintro rfl
          exact nD1 ha
        refine q _ _ (.ref D) hk (S2.adoptO nD1 ⟨_, upd_same, (e3 [] [] rfl).mono ⟨[D], rfl⟩ kw⟩) (.ref (by rw [← S1.len]; simp))
      · exact q.elim
    · exact q.elim
theorem nPairs_ok {r : Rec} (ih : Snd p T call lv c r) {Wx : WX} {X : Cx} {sc : Scope} (G : Good p T call lv c Wx X sc) {pos : Pos} : ∀ {ks : List (Option Expr)} {vs : List Expr} {es : EL}, nPairs r sc ks vs = some es →
    ∃ trs, Prs p Wx T call es trs ∧ PPs X pos ks vs trs ∧ ks.all (·.isSome) = true ∧ ks.length = vs.length
  | [], [], es, h => by
    simp only [nPairs, Option.some.injEq] at h
    subst h
    exact ⟨[], .nil, pps_nil, rfl, rfl⟩
  | some k :: ks, v :: vs, es, h => by
    simp only [nPairs] at h
    split at h
    · rename_i h1 h2 h3
      cases h
      obtain ⟨trs, a, b, d, l⟩ := nPairs_ok ih G (pos := pos) h3
      exact ⟨_, .cons a, pps_cons (ih.e G h1) (ih.e G h2) b, by simpa using d, by simp [l]⟩
    · cases h
  | [], _ :: _, es, h => by simp [nPairs] at h
  | none :: _, [], es, h => by simp [nPairs] at h
  | none :: _, _ :: _, es, h => by simp [nPairs] at h
  | some _ :: _, [], es, h => by simp [nPairs] at h
theorem snd_dict {r : Rec} (ih : Snd p T call lv c r) {Wx : WX} {X : Cx} {sc : Scope} (G : Good p T call lv c Wx X sc) {ks : List (Option Expr)} {vs : List Expr} {es : EL} {pos : Pos} (h : nPairs r sc ks vs = some es) (hl : ks.length ≤ 15) : PE X (.Dict ks vs pos) (tV p Wx T call (.dnew es)) := by
  cases ks with
  | nil =>
    cases vs with
    | nil =>
      simp only [nPairs, Option.some.injEq] at h
      subst h
      refine PE.by fun σ H Q ⟨α, ρ, g, S, E, q⟩ => ⟨_, pe_dnewK, fun D hD => ?_⟩
      simp only [ev, evl, R.bind, pairW] at q
      rw [if_pos (by simp)] at q
      exact q _ _ (.ref D) (.new hD) (S.new hD ⟨[], upd_same, rfl⟩) (.ref (by rw [← S.len]; simp))
    | cons _ _ => simp [nPairs] at h
  | cons k ks =>
    obtain ⟨trs, a, b, d, l⟩ := nPairs_ok ih G (pos := pos) h
    exact PE.by fun σ H Q q => ⟨_, pe_disp b d l (by simp) hl, disp_go a q⟩
theorem snd_dcomp {r : Rec} (ih : Snd p T call lv c r) {Wx : WX} {X : Cx} {sc : Scope} (G : Good p T call lv c Wx X sc) {kx vx tg iter : Expr} {ifs : List Expr} {scope : Scope} {pos : Pos} {e' : E} (h : nDC c r sc kx vx tg iter ifs scope = some e') :
    ∃ (own : List (Str × Nat)) (t : Tg) (s : Src) (d ke ve : E), e' = .dcomp (own.map (·.2)) t s d ke ve ∧ (∀ i ∈ t.slots, i ∈ own.map (·.2)) ∧ PE X (.DictComp kx vx [⟨tg, iter, ifs, 0⟩] scope pos) (tDc (tC p Wx T call s) (gT p.K t) (tB p WF (tst T call d)) (tE p WF (ev T call ke)) (tE p WF (ev T call ve)) (own.map (·.2))) ∧
      ∀ {i : Nat} {y : Str} {py spos : Pos}, X.N[i]? = some y → X.env.scope.names.lookup y = some .local → swapsWith (.DictComp kx vx [⟨tg, iter, ifs, 0⟩] scope pos) (some (.Name y py)) spos.line X.env = pure true →
        PS X (.Assign [.Name y py] (.DictComp kx vx [⟨tg, iter, ifs, 0⟩] scope pos) spos) (tAsg (tDc (tC p Wx T call s) (gT p.K t) (tB p WF (tst T call d)) (tE p WF (ev T call ke)) (tE p WF (ev T call ve)) (own.map (·.2))) (gName i)) := by
  unfold nDC at h
  split at h
  · rename_i own t s d ke ve h1 h2 h3 h4 h5 h6
    split at h
    · rename_i hc
      simp only [Bool.and_eq_true] at hc
      obtain ⟨⟨hb, ht⟩, hi⟩ := hc
      cases h
      have hK := G.hK
      have b1 : ∀ (s : Shared) (H : Hp) (C : Addr) (cl : List (Str × Addr)) (fp : List Addr), PG (X.blk s H scope (compEnvC scope cl C X.env) fp) tg (gT p.K t) := fun s H C cl fp => tg_ok (cl := clB scope) (G.blk scope s H C cl fp) (fun x hx => hx) h2
      have b2 : ∀ (s : Shared) (H : Hp) (C : Addr) (cl : List (Str × Addr)) (fp : List Addr), PTs (X.blk s H scope (compEnvC scope cl C X.env) fp) ifs (tB p WF (tst T call d)) := fun s H C cl fp => by
        unfold nIfs at h4
        split at h4
        · cases h4
          refine ⟨fun pins s σ H Q I ⟨α, ρ, g, S, E, q⟩ => pts_nil.run pins s σ H Q I ?_⟩
          simp only [tst, ev, R.bind, R.of, truthW] at q
          exact post.ok q S rfl
        · exact pts_one (ih.t (G.blk scope s H C cl fp) h4)
        · cases h4
      have b3 : ∀ (s : Shared) (H : Hp) (C : Addr) (cl : List (Str × Addr)) (fp : List Addr), PE (X.blk s H scope (compEnvC scope cl C X.env) fp) kx (tE p WF (ev T call ke)) := fun s H C cl fp => ih.e (G.blk scope s H C cl fp) h5
      have b4 : ∀ (s : Shared) (H : Hp) (C : Addr) (cl : List (Str × Addr)) (fp : List Addr), PE (X.blk s H scope (compEnvC scope cl C X.env) fp) vx (tE p WF (ev T call ve)) := fun s H C cl fp => ih.e (G.blk scope s H C cl fp) h6
      refine ⟨own, t, s, d, ke, ve, rfl, fun i hm => by simpa using List.all_eq_true.mp ht i hm, ?_, ?_⟩
      · exact pe_dc G.calm (by rw [G.N]; exact G.nd) (ih.s G h3) (by rw [G.N, G.sc]; exact blkOk_by hb) b1 b2 b3 b4 (foldPlain hi _)
      · intro i y py spos hN hl hsw
        exact ps_setDc G.calm (by rw [G.N]; exact G.nd) hN hl hsw (ih.s G h3) (by rw [G.N, G.sc]; exact blkOk_by hb) b1 b2 b3 b4 (foldPlain hi _)
    · cases h
  · cases h
theorem snd_e {r : Rec} (ih : Snd p T call lv c r) {Wx : WX} {X : Cx} {sc : Scope} (G : Good p T call lv c Wx X sc) {e : Expr} {e' : E} (h : nE c r sc e = some e') : PE X e (tV p Wx T call e') := by
  unfold nE at h
  split at h
  · split at h
    · cases h; exact e_non
    · cases h; exact e_bl
    · cases h; exact e_int
    · cases h; exact e_str
    · cases h
  · exact name_ok G h
  · split at h
    · rename_i hl
      obtain ⟨es', h1, rfl⟩ := oMap h
      obtain ⟨a, b, _, d⟩ := ih.el G h1
      exact e_tup a hl d
    · cases h
  · split at h
    · rename_i hl
      obtain ⟨es', h1, rfl⟩ := oMap h
      obtain ⟨a, b, _, d⟩ := ih.el G h1
      exact e_lst a hl d
    · cases h
  · split at h
    · rename_i h0 h1 h2
      cases h
      rw [cBop_ok h0]
      exact e_bop G.hK (ih.e G h1) (ih.e G h2)
    · cases h
  · split at h
    · obtain ⟨a, h1, rfl⟩ := oMap h
      exact e_neg (ih.e G h1)
    · obtain ⟨a, h1, rfl⟩ := oMap h
      exact e_not (ih.e G h1)
    · cases h
  · exact ih.b G h
  · exact (snd_c ih G h).1
  · split at h
    · rename_i h0 h1 h2
      cases h
      exact e_ife (ih.t G h0) (ih.e G h1) (ih.e G h2)
    · cases h
  · exact snd_sub ih G h
  · split at h
    · rename_i o f pos hc
      simp only [Bool.and_eq_true] at hc
      obtain ⟨o', h1, rfl⟩ := oMap h
      have k := e_fld (f := f.cps.toList) (pos := pos) G.hK (G.fs.fld _ hc.1) (ih.e G h1) (attr_base hc.2)
      rw [nmS_id] at k
      exact k
    · cases h
  · exact snd_call ih G h
  · split at h
    · rename_i hc
      simp only [Bool.and_eq_true, decide_eq_true_eq] at hc
      exact snd_meth ih G h hc.1.1 hc.1.2 hc.2
    · cases h
  · exact (ih.i G h).2 rfl
  · split at h
    · rename_i hl
      obtain ⟨es, h1, rfl⟩ := oMap h
      exact snd_dict ih G h1 hl
    · cases h
  · obtain ⟨own, t, s, d, ke, ve, rfl, hv, k, _⟩ := snd_dcomp ih G h
    exact dcomp_val hv k
  · cases h
theorem snd_step {r : Rec} (ih : Snd p T call lv c r) : Snd p T call lv c (stp c r) where
  e G _ _ h := snd_e ih G h
  el G _ _ h := snd_el ih G h
  b G _ _ _ _ h := snd_b ih G h
  t G _ _ h := snd_t ih G h
  bt G _ _ _ _ h := snd_bt ih G h
  i G _ _ h := snd_i ih G h
  s G _ _ _ h := snd_s ih G h
theorem snd : ∀ n, Snd p T call lv c (cR c n)
  | 0 => ⟨fun _ _ _ h => (by cases h), fun _ _ _ h => (by cases h), fun _ _ _ _ _ h => (by cases h), fun _ _ _ h => (by cases h), fun _ _ _ _ _ h => (by cases h), fun _ _ _ h => (by cases h), fun _ _ _ _ h => (by cases h)⟩
  | n + 1 => snd_step (snd n)
end
end Dl

/-! DlO: statements: the compiler and its soundness. -/
namespace Dl
open PySem L2
structure SRec where
  st : Scope → Stmt → Option S
  sts : Scope → List Stmt → Option SL
def swB (sc : Scope) (y : Str) (py pos : Pos) (cs : Scope) : Bool :=
  (if sc.kind.isAnnotationScope then ScopeKind.function else sc.kind) == .function && sc.names.lookup y == some .local && py.line == pos.line && !(cs.names.any fun (n, k) => n == y && (k == .local || k == .cell))
section
variable (c : Cn) (r : Rec) (k : SRec)
def cAug : Operator → Option Bop
  | .Add => some .add
  | .Sub => some .sub
  | _ => none
def nSwap (sc : Scope) : List Expr → Expr → Option S
  | [.Subscript a b _, .Subscript d e _], .Tuple [x, y] _ _ => if notSlice b && (notSlice e && (notStar x && notStar y)) then match r.e sc a, r.e sc b, r.e sc d, r.e sc e, r.e sc x, r.e sc y with
    | some a', some b', some d', some e', some x', some y' => some (.swap a' b' d' e' x' y')
    | _, _, _, _, _, _ => none else none
  | _, _ => none
def nAsg (sc : Scope) (tg v : Expr) : Option S := match tg with
  | .Name x px => match cTgN c clA sc (.Name x px) with
    | some i => (match v with
      | .ListComp elt [⟨tg, iter, ifs, 0⟩] scope pos => if swB sc x px pos scope then (nLC c r sc elt tg iter ifs scope).map fun e => .asg (.nm i) e else (r.e sc v).map fun e => .asg (.nm i) e
      | .DictComp kx vx [⟨tg, iter, ifs, 0⟩] scope pos => if swB sc x px pos scope then (nDC c r sc kx vx tg iter ifs scope).map fun e => .asg (.nm i) e else none
      | v => if notComp v then (r.e sc v).map fun e => .asg (.nm i) e else none)
    | none => none
  | .Tuple es _ _ => if isTup v then nSwap r sc es v else match cTgs c clA sc es, r.e sc v with
    | some l, some e => some (.asg (.tp l) e)
    | _, _ => none
  | .Subscript o i _ => if notSlice i then match r.e sc o, r.e sc i, r.e sc v with
    | some o', some i', some v' => some (.put o' i' v')
    | _, _, _ => none else none
  | .Attribute o f _ => if c.fld.contains f.cps.toList then match r.e sc o, r.e sc v with
    | some o', some v' => some (.setf o' f.cps.toList v')
    | _, _ => none else none
  | _ => none
def nRaise (sc : Scope) (e : Expr) : Option S := match e with
  | .Call (.Name x _) [.Constant (.str _) _ _] [] _ => if isGl sc x then match c.gl.lookup x with
    | some (.exc k) => some (.rais k)
    | _ => none else none
  | _ => none
def isDoc : Expr → Bool
  | .Constant (.str _) _ _ => true
  | _ => false
/-- what a caught error is asked -/
def is1 (sc : Scope) (n : Str) (kk : Nat) : Expr → Bool
  | .Call (.Name f _) [.Name n' _, .Name y _] [] _ => decide (f = ("isinstance" : Str)) && (decide (n' = n) && (isGl sc f && ((match c.gl.lookup f with | some (.blt .isinstance) => true | _ => false) && (isGl sc y && (match c.gl.lookup y with
    | some (.exc j) => c.sup.contains (kk, j)
    | some .vex => true
    | _ => false)))))
  | _ => false
def isTests (sc : Scope) (n : Str) (kk : Nat) : Expr → Bool
  | .BoolOp .And [a, b] _ => is1 c sc n kk a && is1 c sc n kk b
  | a => is1 c sc n kk a
/-- constants that are handed back -/
def cKs : List Expr → Option (List Str)
  | [] => some []
  | .Constant (.str s) _ _ :: r => (cKs r).map (s :: ·)
  | _ => none
def cK : Expr → Option W
  | .Constant .none _ _ => some .non
  | .Constant (.bool b) _ _ => some (.bl b)
  | .Constant (.str s) _ _ => some (.str s.cps.toList)
  | .Tuple es _ _ => if es.length ≤ lim then (cKs es).map fun l => .tup (l.map fun s => .str s.cps.toList) else none
  | _ => none
def nTry (sc : Scope) (body : List Stmt) (x n : Str) (test e : Expr) : Option S :=
  if isGl sc x && (isLoc sc n && (!(n == ("__debug__" : Str)) && !(n == ("__classdict__" : Str)))) then match c.gl.lookup x, ixOf n c.N 0, k.sts sc body, cK e with
    | some (.exc kk), some i, some b, some w => if c.sup.contains (kk, kk) && isTests c sc n kk test then some (.tryc b kk i w) else none
    | _, _, _, _ => none
  else none
def nSt (sc : Scope) (s : Stmt) : Option S := match s with
  | .Assign [tg] v _ => nAsg c r sc tg v
  | .AugAssign tg op v _ => (match tg, cAug op, r.e sc v with
    | .Name x px, some o, some v' => (cTgN c clA sc (.Name x px)).map fun i => .aug i o v'
    | .Attribute a f _, some o, some v' => if c.fld.contains f.cps.toList then (r.e sc a).map fun a' => .augf a' f.cps.toList o v' else none
    | _, _, _ => none)
  | .Expr e _ => if isDoc e then some .pass else if notComp e then (r.e sc e).map .expr else none
  | .Return none _ => some .retn
  | .Return (some e) _ => (r.e sc e).map .ret
  | .If t a b _ => (match r.t sc t, k.sts sc a, k.sts sc b with
    | some t', some a', some b' => some (.ifs t' a' b')
    | _, _, _ => none)
  | .While t a [] _ => (match r.t sc t, k.sts sc a with
    | some t', some a' => some (.whl t' a')
    | _, _ => none)
  | .For tg it a [] _ => if notSet it then (match cTg c clA sc tg, r.s sc tg it, k.sts sc a with
    | some t', some s', some a' => some (.for_ t' s' a')
    | _, _, _ => none) else none
  | .Raise (some e) none _ => nRaise c sc e
  | .Pass _ => some .pass
  | .Break _ => some .brk
  | .Continue _ => some .cnt
  | .Try body [.ExceptHandler (some (.Name x _)) (some n) [.If test [.Return (some e) _] [] _] _] [] [] _ => nTry c k sc body x n test e
  | _ => none
def nSts (sc : Scope) : List Stmt → Option SL
  | [] => some .nil
  | s :: ss => match k.st sc s, k.sts sc ss with
    | some s', some r' => some (.cons s' r')
    | _, _ => none
def cSR : Nat → SRec
  | 0 => ⟨fun _ _ => none, fun _ _ => none⟩
  | n + 1 => ⟨nSt c r (cSR n), nSts (cSR n)⟩
end
section
variable {p : Px} {T : Tbl} {call : CallF} {lv : Nat} {c : Cn}
/-- a def's own context -/
structure Top (X : Cx) : Prop where
  st : X.stack = X.env :: X.outer
  fr : X.env.frame = some X.env.locals
structure SndS (p : Px) (T : Tbl) (call : CallF) (lv : Nat) (c : Cn) (k : SRec) : Prop where
  st : ∀ {Wx X sc}, Good p T call lv c Wx X sc → (∀ x, clA x = true → X.fn x = true) → Top X → ∀ {s s'}, k.st sc s = some s' → PS X s (tX p Wx T call s')
  sts : ∀ {Wx X sc}, Good p T call lv c Wx X sc → (∀ x, clA x = true → X.fn x = true) → Top X → ∀ {s s'}, k.sts sc s = some s' → PSs X s (tXs p Wx T call s')
theorem sw_no {v : Expr} {t : Option Expr} {l : Nat} {env : PySem.Env} (h : notComp v = true) : swapsWith v t l env = pure false := by
  cases v <;> first | rfl | (simp [notComp] at h; done)
theorem sw_no2 {v t : Expr} {l : Nat} {env : PySem.Env} (h : notComp v = true) : swapsWithSole [t] v l env = pure false := sw_no h
theorem sw_tup {v : Expr} {es : List Expr} {k : Nat} {p' : Pos} {l : Nat} {env : PySem.Env} : swapsWithSole [.Tuple es k p'] v l env = pure false := by
  cases v <;> rfl
theorem sw_sub {v o i : Expr} {p' : Pos} {l : Nat} {env : PySem.Env} : swapsWith v (some (.Subscript o i p')) l env = pure false := by
  cases v <;> rfl
theorem sw_sub2 {v o i : Expr} {p' : Pos} {l : Nat} {env : PySem.Env} : swapsWithSole [.Subscript o i p'] v l env = pure false := sw_sub (o := o) (i := i) (p' := p') (l := l) (env := env)
theorem sw_att {v o : Expr} {f : Str} {p' : Pos} {l : Nat} {env : PySem.Env} : swapsWith v (some (.Attribute o f p')) l env = pure false := by
  cases v <;> rfl
theorem ss_no {t v : Expr} {env : PySem.Env} (h : isTup v = false) : swappedStores [t] v env = pure none := by
  cases v <;> first | (cases t <;> rfl) | (simp [isTup] at h; done)
theorem ss_sub {o i v : Expr} {p' : Pos} {env : PySem.Env} : swappedStores [.Subscript o i p'] v env = pure none := by
  cases v <;> rfl
theorem asg_sub {o i : Expr} {pos : Pos} {env : PySem.Env} (h : notSlice i = true) : ∀ v, assign (.Subscript o i pos) env v = (do
      let ov ← holding [v] (eval o env)
      let iv ← holding [v, ov] (eval i env)
      standAt pos
      holding [v, ov, iv] (setItem ov iv v)
      release [v, ov, iv] []) := by
  intro v
  cases i <;> first | rfl | (simp [notSlice] at h; done)
theorem sw_lc {elt : Expr} {gs : List Comprehension} {scope sc : Scope} {pos py : Pos} {y : Str} {l : Nat} {env : PySem.Env} (h : env.scope = sc) : swapsWith (.ListComp elt gs scope pos) (some (.Name y py)) l env = pure (swB sc y py pos scope) := by
  subst h; rfl
theorem sw_dc {kx vx : Expr} {gs : List Comprehension} {scope sc : Scope} {pos py : Pos} {y : Str} {l : Nat} {env : PySem.Env} (h : env.scope = sc) : swapsWith (.DictComp kx vx gs scope pos) (some (.Name y py)) l env = pure (swB sc y py pos scope) := by
  subst h; rfl
theorem cAug_ok {op : Operator} {o : Bop} (h : cAug op = some o) : (op = .Add ∧ o = .add) ∨ (op = .Sub ∧ o = .sub) := by
  cases op <;> simp [cAug] at h <;> subst h <;> simp
theorem aug_name {Wx : WX} {X : Cx} {sc : Scope} (G : Good p T call lv c Wx X sc) (hf : ∀ x, clA x = true → X.fn x = true) {x : Str} {px pos : Pos} {i : Nat} {op : Operator} {o : Bop} {v : Expr} {v' : E} (hi : cTgN c clA sc (.Name x px) = some i) (ho : cAug op = some o) (hv : PE X v (tV p Wx T call v')) : PS X (.AugAssign (.Name x px) op v pos) (tX p Wx T call (.aug i o v')) := by
  obtain ⟨y, q, e, h1, h2, h3⟩ := tgN_ok G hf hi
  cases e
  have nd : X.N.Nodup := by rw [G.N]; exact G.nd
  rcases cAug_ok ho with ⟨rfl, rfl⟩ | ⟨rfl, rfl⟩
  · exact x_aug _ (fun a b z H Q e q => ⟨a, b, rfl, rfl, by subst e; exact q⟩) (ps_aug nd h1 h2 hv ip_add h3)
  · exact x_aug _ (fun a b z H Q e q => ⟨a, b, rfl, rfl, by subst e; exact q⟩) (ps_aug nd h1 h2 hv ip_sub h3)
theorem aug_fld {Wx : WX} {X : Cx} {sc : Scope} (G : Good p T call lv c Wx X sc) {a : Expr} {a' : E} {f : Str} {px pos : Pos} {op : Operator} {o : Bop} {v : Expr} {v' : E} (hf : c.fld.contains f.cps.toList = true) (ha : PE X a (tV p Wx T call a')) (ho : cAug op = some o) (hv : PE X v (tV p Wx T call v')) : PS X (.AugAssign (.Attribute a f px) op v pos) (tX p Wx T call (.augf a' f.cps.toList o v')) := by
  rcases cAug_ok ho with ⟨rfl, rfl⟩ | ⟨rfl, rfl⟩
  · exact x_augf rAdd (fun a b z H Q e q => ⟨a, b, rfl, rfl, by subst e; exact q⟩) G.hK (G.fs.fld _ hf) (by rw [nmS_id]; exact ps_fldaug ha hv in_add)
  · exact x_augf rSub (fun a b z H Q e q => ⟨a, b, rfl, rfl, by subst e; exact q⟩) G.hK (G.fs.fld _ hf) (by rw [nmS_id]; exact ps_fldaug ha hv in_sub)
theorem ss_swap {a b d e x y : Expr} {p1 p2 p3 p4 : Pos} {k1 k2 : Nat} {env : PySem.Env} : swappedStores [.Tuple [.Subscript a b p1, .Subscript d e p2] k1 p3] (.Tuple [x, y] k2 p4) env = pure none := by
  unfold swappedStores
  simp
theorem snd_swap {r : Rec} (ih : Snd p T call lv c r) {Wx : WX} {X : Cx} {sc : Scope} (G : Good p T call lv c Wx X sc) {es : List Expr} {v : Expr} {k1 : Nat} {pos p3 : Pos} {s' : S} (h : nSwap r sc es v = some s') : PS X (.Assign [.Tuple es k1 p3] v pos) (tX p Wx T call s') := by
  unfold nSwap at h
  split at h
  · split at h
    · rename_i hc
      simp only [Bool.and_eq_true] at hc
      split at h
      · rename_i q1 q2 q3 q4 q5 q6
        cases h
        refine x_swap (ps_asg (pe_tup (two_arg ih G q5 q6 hc.2.2.1 hc.2.2.2)) (pg_tup G.calm (pgs_cons (pg_sub (ih.e G q1) (ih.e G q2) set_list (asg_sub hc.1)) (pgs_cons (pg_sub (ih.e G q3) (ih.e G q4) set_list (asg_sub hc.2.1)) pgs_nil))) rfl ss_swap)
      · cases h
    · cases h
  · cases h
theorem snd_asg {r : Rec} (ih : Snd p T call lv c r) {Wx : WX} {X : Cx} {sc : Scope} (G : Good p T call lv c Wx X sc) (hf : ∀ x, clA x = true → X.fn x = true) {tg v : Expr} {pos : Pos} {s' : S} (h : nAsg c r sc tg v = some s') : PS X (.Assign [tg] v pos) (tX p Wx T call s') := by
  have nd : X.N.Nodup := by rw [G.N]; exact G.nd
  have hK := G.hK
  unfold nAsg at h
  split at h
  · split at h
    · rename_i x px i hi
      obtain ⟨y, q, e, h1, h2, hq⟩ := tgN_ok G hf hi
      cases e
      split at h
      · rename_i elt tg iter ifs scope lpos
        split at h
        · rename_i hsw
          obtain ⟨e', h3, rfl⟩ := oMap h
          unfold nLC at h3
          split at h3
          · rename_i own t s d el k1 k2 k3 k4 k5
            split at h3
            · rename_i hc
              simp only [Bool.and_eq_true] at hc
              obtain ⟨⟨hb, ht⟩, hi2⟩ := hc
              cases h3
              have hv : ∀ i ∈ t.slots, i ∈ own.map (·.2) := fun i hm => by simpa using List.all_eq_true.mp ht i hm
              refine x_set (te := tV p Wx T call (.comp (own.map (·.2)) t s d el)) (PS.by fun D σ H q => ⟨tAsg (tLc (tC p Wx T call s) (gT p.K t) (tB p WF (tst T call d)) (tE p WF (ev T call el)) (own.map (·.2))) (gName i), ?_, ?_⟩)
              · refine ps_setLc G.calm nd h1 (by rw [G.sc]; unfold swB at hsw; simp only [Bool.and_eq_true, beq_iff_eq] at hsw; exact hsw.1.1.2) (by rw [sw_lc G.sc, hsw]) (ih.s G k3) (by rw [G.N, G.sc]; exact blkOk_by hb) (fun s H C cl fp => ?_) (fun s H C cl fp => ?_) (fun s H C cl fp => ?_) (foldPlain hi2 _)
                · exact tg_ok (cl := clB scope) (G.blk scope s H C cl fp) (fun x hx => hx) k2
                · unfold nIfs at k4
                  split at k4
                  · cases k4
                    refine ⟨fun pins s σ H Q I ⟨α, ρ, g, S, E, q⟩ => pts_nil.run pins s σ H Q I ?_⟩
                    simp only [tst, ev, R.bind, R.of, truthW] at q
                    exact post.ok q S rfl
                  · exact pts_one (ih.t (G.blk scope s H C cl fp) k4)
                  · cases k4
                · exact ih.e (G.blk scope s H C cl fp) k5
              · have e2 : ev T call (.comp (own.map (·.2)) t s d el) = fun ρ g => (its T call (.comp (own.map (·.2)) t s d el) ρ g).bind fun ws g2 => R.ok (W.ref g2.length) (g2 ++ [Ob.lst ws]) := by
                  funext ρ g
                  rw [ev_comp]
                have q2 : tE p Wx (ev T call (.comp (own.map (·.2)) t s d el)) σ H (fun x H1 => gName i x σ H1 D.nx) := q
                rw [e2] at q2
                exact comp_go hv (alloc_go q2)
            · cases h3
          · cases h3
        · rename_i hsw
          obtain ⟨e', h3, rfl⟩ := oMap h
          exact x_set (te := tV p Wx T call e') (ps_set nd h1 h2 (ih.e G h3) (by rw [sw_lc G.sc]; simp at hsw; rw [hsw]) hq)
      · rename_i kx vx tg iter ifs scope lpos
        split at h
        · rename_i hsw
          obtain ⟨e', h3, rfl⟩ := oMap h
          obtain ⟨own, t, s, d, ke, ve, rfl, hv, _, k⟩ := snd_dcomp (pos := lpos) ih G h3
          refine x_set (te := tV p Wx T call (.dcomp (own.map (·.2)) t s d ke ve)) (PS.by fun D σ H q => ⟨_, k h1 (by rw [G.sc]; unfold swB at hsw; simp only [Bool.and_eq_true, beq_iff_eq] at hsw; exact hsw.1.1.2) (by rw [sw_dc G.sc, hsw]), ?_⟩)
          have e2 : ev T call (.dcomp (own.map (·.2)) t s d ke ve) = fun ρ g => (dits T call (own.map (·.2)) t s d ke ve ρ g).bind fun ws g2 => R.ok (W.ref g2.length) (g2 ++ [Ob.dct ws]) := by
            funext ρ g
            rw [ev_dcomp]
          have q2 : tE p Wx (ev T call (.dcomp (own.map (·.2)) t s d ke ve)) σ H (fun x H1 => gName i x σ H1 D.nx) := q
          rw [e2] at q2
          exact dcomp_go hv (allocD_go q2)
        · cases h
      · split at h
        · rename_i hn
          obtain ⟨e', h3, rfl⟩ := oMap h
          exact x_set (te := tV p Wx T call e') (ps_set nd h1 h2 (ih.e G h3) (sw_no hn) hq)
        · cases h
    · cases h
  · split at h
    · exact snd_swap ih G h
    · rename_i hn
      simp only [Bool.not_eq_true] at hn
      split at h
      · rename_i l e' k1 k2
        cases h
        obtain ⟨a, b, d⟩ := tgs_ok G hf k1
        exact x_tup hK (ps_asg (ih.e G k2) (pg_tup G.calm a b d) sw_tup (ss_no hn)) (ps_asg (ih.e G k2) (pg_lst G.calm a b d) sw_tup (ss_no hn))
      · cases h
  · split at h
    · rename_i hs
      split at h
      · rename_i k1 k2 k3
        cases h
        exact x_put hK (ps_asg (ih.e G k3) (pg_sub (ih.e G k1) (ih.e G k2) set_list (asg_sub hs)) sw_sub2 ss_sub) (ps_dput (by have := G.hu; omega) (ih.e G k1) (ih.e G k2) (ih.e G k3) sw_sub)
      · cases h
    · cases h
  · split at h
    · rename_i hf
      split at h
      · rename_i k1 k2
        cases h
        exact x_setf hK (G.fs.fld _ hf) (by rw [nmS_id]; exact ps_fld (ih.e G k1) (ih.e G k2) sw_att)
      · cases h
    · cases h
  · cases h
theorem isDoc_ok {e : Expr} (h : isDoc e = true) : ∃ s k q, e = .Constant (.str s) k q := by
  unfold isDoc at h
  split at h
  · exact ⟨_, _, _, rfl⟩
  · cases h
/-- constants -/
def kV1 : W → V
  | .bl b => .bl b
  | .str s => .str (strV s)
  | _ => .non
def tK : W → TE
  | .tup ws => fun _ H Q => ∀ l, H l = none → Q (.ref l) (upd H l (.tup (ws.map kV1)))
  | w => fun _ H Q => Q (kV1 w) H
def tKs (vs : List V) : TA := fun _ H Q => Q vs H
theorem rep_ks {α : List Addr} {H : Hp} : ∀ l : List Str, RepVs p α H (l.map fun s : Str => W.str s.cps.toList) ((l.map fun s : Str => W.str s.cps.toList).map kV1)
  | [] => .nil
  | s :: r => .cons .str (rep_ks r)
theorem pa_ks {X : Cx} : ∀ {es : List Expr} {l : List Str}, cKs es = some l → PA X es (tKs (l.map fun s => V.str s)) ∧ es.all notStar = true
  | [], l, h => by
    simp only [cKs, Option.some.injEq] at h
    subst h
    exact ⟨pa_nil, rfl⟩
  | e :: r, l, h => by
    unfold cKs at h
    split at h
    · rename_i h2; cases h2
    · rename_i s j q r' h2
      cases h2
      simp only [Option.map_eq_some_iff] at h
      obtain ⟨l', h, rfl⟩ := h
      obtain ⟨a, b⟩ := pa_ks (X := X) h
      exact ⟨pa_cons pe_str a (star_cons rfl), by simp [b, notStar]⟩
    · cases h
theorem pe_k {X : Cx} {e : Expr} {w : W} (h : cK e = some w) : PE X e (tK w) := by
  unfold cK at h
  split at h
  · cases h
    exact pe_non
  · cases h
    exact pe_bl
  · rename_i s j q
    cases h
    have : strV s.cps.toList = s := by cases s; rfl
    show PE X _ (fun _ H Q => Q (.str (strV s.cps.toList)) H)
    rw [this]
    exact pe_str
  · split at h
    · rename_i hl
      simp only [Option.map_eq_some_iff] at h
      obtain ⟨l, h, rfl⟩ := h
      obtain ⟨a, _⟩ := pa_ks (X := X) h
      have hll : ∀ {es : List Expr} {l : List Str}, cKs es = some l → l.length = es.length := by
        intro es
        induction es with
        | nil => intro l h; simp only [cKs, Option.some.injEq] at h; subst h; rfl
        | cons e r ih =>
          intro l h
          unfold cKs at h
          split at h
          · rename_i h2; cases h2
          · rename_i s j q r' h2
            cases h2
            simp only [Option.map_eq_some_iff] at h
            obtain ⟨l', h, rfl⟩ := h
            simp [ih h]
          · cases h
      have e1 : ((l.map fun s : Str => W.str s.cps.toList).map kV1) = l.map fun s => V.str s := by
        rw [List.map_map]
        apply List.map_congr_left
        intro s _
        show V.str (strV s.cps.toList) = V.str s
        cases s; rfl
      refine PE.by fun σ H Q q => ⟨_, pe_tup a, ?_⟩
      have q : ∀ l', H l' = none → Q (.ref l') (upd H l' (.tup (((l.map fun s : Str => W.str s.cps.toList)).map kV1))) := q
      rw [e1] at q
      refine ⟨?_, q⟩
      rw [List.length_map, hll h]
      exact Nat.le_trans hl lim_line
    · cases h
  · cases h
theorem is1_ok {X : Cx} {Wx : WX} {sc : Scope} (G : Good p T call lv c Wx X sc) {n : Str} {i kk : Nat} (hi : X.N[i]? = some n) (hv : Vis X.env.scope n) (hd1 : (n == ("__debug__" : Str)) = false) (hd2 : (n == ("__classdict__" : Str)) = false) (hs : (kk, kk) ∈ c.sup) {a : Addr} {oe : Obj} {pn : List (Addr × Obj)} (hz : Zc (.ref (p.xa kk)) none oe) (hf : ∃ vs, oe.data = .fields vs) {e : Expr} (h : is1 c sc n kk e = true) :
    ∃ tt, PT (X.suite a ((a, oe) :: pn)) e tt ∧ ∀ σ H (Q : Bool → Hp → Prop), σ[i]? = some (some (.ref a)) → Q true H → tt σ H Q := by
  unfold is1 at h
  split at h
  · rename_i f p1 n' p2 y p3 pos
    simp only [Bool.and_eq_true, decide_eq_true_eq] at h
    obtain ⟨rfl, rfl, h3, h4, h5, h6⟩ := h
    have h4 : c.gl.lookup ("isinstance" : Str) = some (.blt .isinstance) := by
      split at h4
      · assumption
      · cases h4
    obtain ⟨g1, _, _⟩ := isGl_ok G h3
    obtain ⟨_, m1⟩ := G.fs.blt _ _ h4
    obtain ⟨g2, d2, d3⟩ := isGl_ok G h5
    obtain ⟨C, _, _, _⟩ := G.fs.sup kk kk hs
    have key : ∀ (cv : V) (cu : Value), PE (X.suite a ((a, oe) :: pn)) (.Name y p3) (L2.tC cv) → (∀ u, RelV cv u → u = cu) → PySem.W.kitOne X.K (.ref (p.xa kk)) cu = some true → ∃ tt, PT (X.suite a ((a, oe) :: pn)) (.Call (.Name "isinstance" p1) [.Name n' p2, .Name y p3] [] pos) tt ∧ ∀ σ H (Q : Bool → Hp → Prop), σ[i]? = some (some (.ref a)) → Q true H → tt σ H Q := by
      intro cv cu hp hc hk
      refine ⟨_, pt_val (pe_callB (X := X.suite a ((a, oe) :: pn)) (call_isE C hz hf) g1 m1 rfl (pa_cons (pe_var hi hv hd1 hd2) (pa_cons hp pa_nil (star_cons rfl)) (star_cons rfl)) (by decide) (by decide) (star_cons rfl) (back_any (star_all rfl))), fun σ H Q hσ q => ?_⟩
      exact ⟨.ref a, hσ, cv, cu, true, rfl, hc, hk, true, rfl, q⟩
    split at h6
    · rename_i j hj
      obtain ⟨e1, _, _, _⟩ := G.fs.exc y j hj
      obtain ⟨_, _, _, e4⟩ := G.fs.sup kk j (by simpa using h6)
      exact key (.ref (p.xa j)) (.ref (p.xa j)) (pe_glob g2 e1 rfl d2) (fun u hu => hu) e4
    · rename_i hj
      obtain ⟨rfl, m2⟩ := G.fs.vex y hj
      obtain ⟨_, _, e3, _⟩ := G.fs.sup kk kk hs
      exact key (.ty "ValueError") (.type "ValueError") (pe_bltn (u := .type "ValueError") g2 m2 rfl rfl (by decide) (by decide)) (fun u hu => hu) e3
    · cases h6
  · cases h
theorem isTests_ok {X : Cx} {Wx : WX} {sc : Scope} (G : Good p T call lv c Wx X sc) {n : Str} {i kk : Nat} (hi : X.N[i]? = some n) (hv : Vis X.env.scope n) (hd1 : (n == ("__debug__" : Str)) = false) (hd2 : (n == ("__classdict__" : Str)) = false) (hs : (kk, kk) ∈ c.sup) {a : Addr} {oe : Obj} {pn : List (Addr × Obj)} (hz : Zc (.ref (p.xa kk)) none oe) (hf : ∃ vs, oe.data = .fields vs) {e : Expr} (h : isTests c sc n kk e = true) :
    ∃ tt, PT (X.suite a ((a, oe) :: pn)) e tt ∧ ∀ σ H (Q : Bool → Hp → Prop), σ[i]? = some (some (.ref a)) → Q true H → tt σ H Q := by
  unfold isTests at h
  split at h
  · rename_i e1 e2 pos
    simp only [Bool.and_eq_true] at h
    obtain ⟨t1, P1, q1⟩ := is1_ok (pn := pn) G hi hv hd1 hd2 hs hz hf h.1
    obtain ⟨t2, P2, q2⟩ := is1_ok (pn := pn) G hi hv hd1 hd2 hs hz hf h.2
    exact ⟨_, (pw_and P1 (pw_and1 P2)).pt, fun σ H Q hσ q => q1 σ H _ hσ (by rw [if_pos rfl]; exact q2 σ H Q hσ q)⟩
  · exact is1_ok G hi hv hd1 hd2 hs hz hf h
theorem snd_try {k : SRec} (ik : SndS p T call lv c k) {Wx : WX} {X : Cx} {sc : Scope} (G : Good p T call lv c Wx X sc) (hf : ∀ x, clA x = true → X.fn x = true) (hT : Top X) {body : List Stmt} {x n : Str} {test e : Expr} {np p1 p2 p3 pos : Pos} {s' : S} (h : nTry c k sc body x n test e = some s') :
    PS X (.Try body [.ExceptHandler (some (.Name x np)) (some n) [.If test [.Return (some e) p1] [] p2] p3] [] [] pos) (tX p Wx T call s') := by
  unfold nTry at h
  split at h
  · rename_i hc
    simp only [Bool.and_eq_true, Bool.not_eq_true'] at hc
    obtain ⟨hg, hln, hd1, hd2⟩ := hc
    split at h
    · rename_i kk i b w h1 h2 h3 h4
      split at h
      · rename_i hc2
        cases h
        simp only [Bool.and_eq_true] at hc2
        have hsup : (kk, kk) ∈ c.sup := by simpa using hc2.1
        obtain ⟨g1, d1, d2⟩ := isGl_ok G hg
        obtain ⟨e1, _, _, _⟩ := G.fs.exc x kk h1
        obtain ⟨_, he2, _, _⟩ := G.fs.sup kk kk hsup
        obtain ⟨_, hix⟩ := ixOf_get h2
        have hi : X.N[i]? = some n := by rw [G.N]; simpa using hix
        have hl : X.env.scope.names.lookup n = some .local := by rw [G.sc]; exact of_decide_eq_true hln
        refine PS.by fun D σ H ⟨α, ρ, g, S, E, q⟩ => ⟨_, ps_try_as hT.st hT.fr (by rw [G.N]; exact G.nd) hi hl ⟨g1, d1, .inl e1⟩ G.tk (tb := fun W => tXs p W T call b)
          (ts := fun a cls d D σ H => cls = .ref (p.xa kk) ∧ d = none ∧ σ[i]? = some (some (.ref a)) ∧ tK w σ H D.rt)
          (fun W pn xe tk own => ik.sts (G.tr tk own) hf ⟨hT.st, hT.fr⟩ h3) (fun a oe cls d pn hz hfl => ?_), α, ρ, g, S, E, ?_⟩
        · refine ⟨fun pins s σ H D I hw => ?_⟩
          obtain ⟨rfl, rfl, hσ, hk⟩ := hw
          obtain ⟨tt, P, qt⟩ := isTests_ok (pn := pn) G hi (.inl hl) hd1 hd2 hsup hz hfl hc2.2
          exact (pss_cons (ps_if P (pss_cons (ps_ret (pe_k h4)) pss_nil) pss_nil) pss_nil).run pins s σ H D I (qt σ H _ hσ (by rw [if_pos rfl]; exact hk))
        · simp only [ex] at q
          cases hr : exs T call b ρ g with
          | err => rw [hr] at q; exact q.elim
          | go f ρ1 g1 =>
            rw [hr] at q
            cases f <;> exact q
          | exc k' ρ1 g1 =>
            rw [hr] at q
            simp only at q
            split at q
            · rename_i hk
              obtain ⟨rfl, hil⟩ := hk
              intro α' H' σ' K S' E'
              refine ⟨true, by have := G.hK; exact he2, fun _ a na => ⟨rfl, rfl, ?_, ?_⟩, fun z => by cases z⟩
              · exact List.getElem?_set_self (by rw [← E'.len]; exact hil)
              · have q : ∀ α' H' v, Kp α H α' H' → Sim p α' g1 H' → RepV p α' H' w v → D.rt v H' := q
                unfold cK at h4
                split at h4
                · cases h4; exact q α' H' _ K S' .non
                · cases h4; exact q α' H' _ K S' .bl
                · cases h4; exact q α' H' _ K S' .str
                · split at h4
                  · simp only [Option.map_eq_some_iff] at h4
                    obtain ⟨l, _, rfl⟩ := h4
                    intro l' hl'
                    exact q α' _ _ (K.trans (.junk hl')) (S'.junk hl') (.tup (.inl (.inl upd_same)) (rep_ks l))
                  · cases h4
                · cases h4
            · exact q.elim
      · cases h
    · cases h
  · cases h
theorem snd_st {r : Rec} {k : SRec} (ih : Snd p T call lv c r) (ik : SndS p T call lv c k) {Wx : WX} {X : Cx} {sc : Scope} (G : Good p T call lv c Wx X sc) (hf : ∀ x, clA x = true → X.fn x = true) (hT : Top X) {s : Stmt} {s' : S} (h : nSt c r k sc s = some s') : PS X s (tX p Wx T call s') := by
  unfold nSt at h
  split at h
  · exact snd_asg ih G hf h
  · split at h
    · rename_i k1 k2
      obtain ⟨i, k3, rfl⟩ := oMap h
      exact aug_name G hf k3 k1 (ih.e G k2)
    · rename_i k1 k2
      split at h
      · rename_i hf
        obtain ⟨i, k3, rfl⟩ := oMap h
        exact aug_fld G hf (ih.e G k3) k1 (ih.e G k2)
      · cases h
    · cases h
  · split at h
    · rename_i hd
      cases h
      obtain ⟨s, k, q, rfl⟩ := isDoc_ok hd
      exact PS.by fun D σ H ⟨α, ρ, g, S, E, q⟩ => ⟨_, ps_doc, by simp only [ex] at q; exact q α H σ (.refl _ _) S E⟩
    · split at h
      · rename_i hn
        obtain ⟨e', k3, rfl⟩ := oMap h
        exact x_expr (ps_expr (ih.e G k3) (sw_no hn))
      · cases h
  · cases h; exact x_retn
  · obtain ⟨e', k3, rfl⟩ := oMap h
    exact x_ret (ih.e G k3)
  · split at h
    · rename_i k1 k2 k3
      cases h
      exact x_ifs (ih.t G k1) (ik.sts G hf hT k2) (ik.sts G hf hT k3)
    · cases h
  · split at h
    · rename_i k1 k2
      cases h
      exact x_whl G.own (ih.t G k1) (ik.sts G hf hT k2)
    · cases h
  · split at h
    · rename_i hs
      split at h
      · rename_i k1 k2 k3
        cases h
        exact x_for G.hK G.own G.calm (ih.s G k2) (tg_ok G hf k1) (ik.sts G hf hT k3) (foldPlain hs _)
      · cases h
    · cases h
  · unfold nRaise at h
    split at h
    · split at h
      · rename_i hg
        split at h
        · rename_i k hl
          cases h
          obtain ⟨a, b, d⟩ := isGl_ok G hg
          obtain ⟨e1, e2, e3, e4⟩ := G.fs.exc _ _ hl
          exact x_rais G.calm G.tk (pmk_own PySem.F.excBase_ValueError e2 e1 e3 e4 a b)
        · cases h
      · cases h
    · cases h
  · cases h; exact x_pass
  · cases h; exact x_brk
  · cases h; exact x_cnt
  · exact snd_try ik G hf hT h
  · cases h
theorem snd_sts {k : SRec} (ik : SndS p T call lv c k) {Wx : WX} {X : Cx} {sc : Scope} (G : Good p T call lv c Wx X sc) (hf : ∀ x, clA x = true → X.fn x = true) (hT : Top X) {s : List Stmt} {s' : SL} (h : nSts k sc s = some s') : PSs X s (tXs p Wx T call s') := by
  unfold nSts at h
  split at h
  · cases h; exact x_nil
  · split at h
    · rename_i k1 k2
      cases h
      exact x_cons (ik.st G hf hT k1) (ik.sts G hf hT k2)
    · cases h
theorem sndS {r : Rec} (ih : Snd p T call lv c r) : ∀ n, SndS p T call lv c (cSR c r n)
  | 0 => ⟨fun _ _ _ _ _ h => (by cases h), fun _ _ _ _ _ h => (by cases h)⟩
  | n + 1 => ⟨fun G hf hT _ _ h => snd_st ih (sndS ih n) G hf hT h, fun G hf hT _ _ h => snd_sts (sndS ih n) G hf hT h⟩
end
end Dl

/-! DlP: whole functions: what a call leaves, the functions of a table by induction on the depth of calls. -/
namespace Dl
open PySem L2
theorem kvseq_eq : ∀ {a b : List (W × W)}, kvseq a b = true → a = b
  | [], [], _ => rfl
  | (a, a2) :: r, (b, b2) :: q, h => by
    simp only [kvseq, Bool.and_eq_true] at h
    rw [weq_eq h.1.1, weq_eq h.1.2, kvseq_eq h.2]
  | [], _ :: _, h => by simp [kvseq] at h
  | _ :: _, [], h => by simp [kvseq] at h
theorem fseq_eq : ∀ {a b : List (Nm × W)}, fseq a b = true → a = b
  | [], [], _ => rfl
  | (a, a2) :: r, (b, b2) :: q, h => by
    simp only [fseq, Bool.and_eq_true] at h
    rw [eq_of_beq h.1.1, weq_eq h.1.2, fseq_eq h.2]
  | [], _ :: _, h => by simp [fseq] at h
  | _ :: _, [], h => by simp [fseq] at h
theorem obeq_eq {a b : Ob} (h : obeq a b = true) : a = b := by
  cases a <;> cases b <;> simp [obeq] at h
  · rw [weqs_eq h]
  · rw [kvseq_eq h]
  · rw [kvseq_eq h]
  · rw [weqs_eq h]
  · rw [h.1, fseq_eq h.2]
theorem gpre_eq {n : Nat} : ∀ {g g' : G}, gpre n g g' = true → ∀ {i : Nat} {o : Ob}, g[i]? = some o → ∃ o', g'[i]? = some o' ∧ (o' = o ∨ lowO n o' = true)
  | [], _, _, i, o, h => by simp at h
  | a :: r, b :: q, h, 0, o, e => by
    simp only [gpre, Bool.and_eq_true, Bool.or_eq_true] at h
    simp only [List.getElem?_cons_zero, Option.some.injEq] at e
    subst e
    refine ⟨b, rfl, ?_⟩
    rcases h.1 with h | h
    · exact .inl (obeq_eq h).symm
    · exact .inr h
  | a :: r, b :: q, h, i + 1, o, e => by
    simp only [gpre, Bool.and_eq_true] at h
    simpa using gpre_eq h.2 (i := i) (by simpa using e)
  | _ :: _, [], h, _, _, _ => by simp [gpre] at h
theorem gpre_len {n : Nat} : ∀ {g g' : G}, gpre n g g' = true → g.length ≤ g'.length
  | [], _, _ => Nat.zero_le _
  | a :: r, b :: q, h => by
    simp only [gpre, Bool.and_eq_true] at h
    have := gpre_len h.2
    simp only [List.length_cons]; omega
  | _ :: _, [], h => by simp [gpre] at h
theorem Pre.lt {α α' : List Addr} (h : Pre α α') {i : Nat} (hi : i < α.length) : α'[i]? = α[i]? := by
  obtain ⟨m, rfl⟩ := h
  rw [List.getElem?_append_left hi]
mutual
theorem RepV.low {p : Px} {α α' : List Addr} {H H' : Hp} (k : Pre α α') : ∀ {w : W} {v v0 : V}, RepV p α H w v0 → RepV p α' H' w v → RepV p α H' w v
  | .non, _, _, _, h | .bl _, _, _, _, h | .int _, _, _, _, h | .str _, _, _, _, h | .exn _, _, _, _, h => by simpa only [RepV] using h
  | .tup ws, _, _, h0, h => by
    simp only [RepV] at h h0 ⊢
    obtain ⟨a, vs, e, s, r⟩ := h
    obtain ⟨_, _, _, _, r0⟩ := h0
    exact ⟨a, vs, e, s, RepVs.low k r0 r⟩
  | .ref i, _, _, h0, h => by
    simp only [RepV] at h h0 ⊢
    obtain ⟨a, e, ea⟩ := h
    obtain ⟨b, _, eb⟩ := h0
    exact ⟨a, e, by rw [← k.lt (List.getElem?_eq_some_iff.mp eb).1]; exact ea⟩
  | .fl ws, _, _, h0, h => by
    simp only [RepV] at h h0 ⊢
    obtain ⟨a, vs, e, s, r⟩ := h
    obtain ⟨_, _, _, _, r0⟩ := h0
    exact ⟨a, vs, e, s, RepVs.low k r0 r⟩
  | .fd ks ws, _, _, h0, h => by
    simp only [RepV] at h h0 ⊢
    obtain ⟨a, us, vs, e, s, x, l, m, r⟩ := h
    obtain ⟨_, _, _, _, _, _, _, _, r0⟩ := h0
    exact ⟨a, us, vs, e, s, x, l, m, RepVs.low k r0 r⟩
theorem RepVs.low {p : Px} {α α' : List Addr} {H H' : Hp} (k : Pre α α') : ∀ {ws : List W} {vs v0 : List V}, RepVs p α H ws v0 → RepVs p α' H' ws vs → RepVs p α H' ws vs
  | [], _, _, _, h => by simpa only [RepVs] using h
  | _ :: _, _, _, h0, h => by
    simp only [RepVs] at h h0 ⊢
    obtain ⟨v, q, e, a, b⟩ := h
    obtain ⟨_, _, _, a0, b0⟩ := h0
    exact ⟨v, q, e, RepV.low k a0 a, RepVs.low k b0 b⟩
end
mutual
theorem RepV.cut {p : Px} {α α' : List Addr} {H' : Hp} (k : Pre α α') : ∀ {w : W} {v : V}, below α.length w = true → RepV p α' H' w v → RepV p α H' w v
  | .non, _, _, h | .bl _, _, _, h | .int _, _, _, h | .str _, _, _, h => by simpa only [RepV] using h
  | .exn _, _, hb, _ => by simp [below] at hb
  | .tup ws, _, hb, h => by
    simp only [RepV] at h ⊢
    obtain ⟨a, vs, e, s, r⟩ := h
    exact ⟨a, vs, e, s, RepVs.cut k (by simpa only [below] using hb) r⟩
  | .ref i, _, hb, h => by
    simp only [RepV] at h ⊢
    obtain ⟨a, e, ea⟩ := h
    exact ⟨a, e, by rw [← k.lt (by simpa [below] using hb)]; exact ea⟩
  | .fl ws, _, hb, h => by
    simp only [RepV] at h ⊢
    obtain ⟨a, vs, e, s, r⟩ := h
    exact ⟨a, vs, e, s, RepVs.cut k (by simpa only [below] using hb) r⟩
  | .fd ks ws, _, hb, h => by
    simp only [RepV] at h ⊢
    obtain ⟨a, us, vs, e, s, x, l, m, r⟩ := h
    exact ⟨a, us, vs, e, s, x, l, m, RepVs.cut k (by simpa only [below] using hb) r⟩
theorem RepVs.cut {p : Px} {α α' : List Addr} {H' : Hp} (k : Pre α α') : ∀ {ws : List W} {vs : List V}, belows α.length ws = true → RepVs p α' H' ws vs → RepVs p α H' ws vs
  | [], _, _, h => by simpa only [RepVs] using h
  | _ :: _, _, hb, h => by
    simp only [RepVs] at h ⊢
    simp only [belows, Bool.and_eq_true] at hb
    obtain ⟨v, q, e, a, b⟩ := h
    exact ⟨v, q, e, RepV.cut k hb.1 a, RepVs.cut k hb.2 b⟩
end
theorem RepFs.low {p : Px} {α α' : List Addr} {H H' : Hp} (k : Pre α α') : ∀ {ws : List (Nm × W)} {vs v0 : List (Str × V)}, RepFs p α H ws v0 → RepFs p α' H' ws vs → RepFs p α H' ws vs
  | [], _, _, _, h => h
  | (_, _) :: _, _, _, ⟨_, _, _, a0, b0⟩, ⟨v, q, e, a, b⟩ => ⟨v, q, e, RepV.low k a0 a, RepFs.low k b0 b⟩
theorem RepKV.low {p : Px} {α α' : List Addr} {H H' : Hp} (k : Pre α α') : ∀ {ws : List (W × W)} {vs v0 : List (Key × V)}, RepKV p α H ws v0 → RepKV p α' H' ws vs → RepKV p α H' ws vs
  | [], _, _, _, h => h
  | (_, _) :: _, _, _, ⟨_, _, _, _, _, a0, b0⟩, ⟨u, v, q, e, x, a, b⟩ => ⟨u, v, q, e, x, RepV.low k a0 a, RepKV.low k b0 b⟩
theorem RepFs.cut {p : Px} {α α' : List Addr} {H' : Hp} (k : Pre α α') : ∀ {ws : List (Nm × W)} {vs : List (Str × V)}, (ws.all fun f => below α.length f.2) = true → RepFs p α' H' ws vs → RepFs p α H' ws vs
  | [], _, _, h => h
  | (_, _) :: _, _, hb, ⟨v, q, e, a, b⟩ => by
    simp only [List.all_cons, Bool.and_eq_true] at hb
    exact ⟨v, q, e, RepV.cut k hb.1 a, RepFs.cut k hb.2 b⟩
theorem RepKV.cut {p : Px} {α α' : List Addr} {H' : Hp} (k : Pre α α') : ∀ {ws : List (W × W)} {vs : List (Key × V)}, (ws.all fun kv => below α.length kv.1 && below α.length kv.2) = true → RepKV p α' H' ws vs → RepKV p α H' ws vs
  | [], _, _, h => h
  | (_, _) :: _, _, hb, ⟨u, v, q, e, x, a, b⟩ => by
    simp only [List.all_cons, Bool.and_eq_true] at hb
    exact ⟨u, v, q, e, x, RepV.cut k hb.1.2 a, RepKV.cut k hb.2 b⟩
theorem RepO.cut {p : Px} {α α' : List Addr} {H' : Hp} {a : Addr} {o : Ob} (k : Pre α α') (hb : lowO α.length o = true) (h : RepO p α' H' a o) : RepO p α H' a o := by
  cases o with
  | lst ws => obtain ⟨vs, x, y⟩ := h; exact ⟨vs, x, RepVs.cut k hb y⟩
  | dct ws => obtain ⟨vs, x, y⟩ := h; exact ⟨vs, x, RepKV.cut k hb y⟩
  | fz ws => obtain ⟨od, vs, x, y⟩ := h; exact ⟨od, vs, x, RepKV.cut k hb y⟩
  | set ws => exact h
  | ins c ws => obtain ⟨dx, vs, x, z, y⟩ := h; exact ⟨dx, vs, x, z, RepFs.cut k hb y⟩
/-- what a call changed nothing of stands as before -/
theorem Sim.back {p : Px} {α α' : List Addr} {g g' : G} {H H' : Hp} (S : Sim p α g H) (S' : Sim p α' g' H') (k : Kp α H α' H') (e : gpre g.length g g' = true) : Sim p α (g'.take g.length) H' := by
  have hl := gpre_len e
  refine ⟨by rw [S.len, List.length_take]; omega, fun i o a hi ha => ?_, S.nd⟩
  have hi0 : i < α.length := (List.getElem?_eq_some_iff.mp ha).1
  have hig : i < g.length := by rw [← S.len]; exact hi0
  rw [List.getElem?_take_of_lt hig] at hi
  have h0 := S.ob i g[i] a (by simp [hig]) ha
  have h1 := S'.ob i o a hi (k.pre.get ha)
  obtain ⟨o', e1, e2⟩ := gpre_eq e (i := i) (o := g[i]) (by simp [hig])
  rw [hi] at e1
  cases e1
  rcases e2 with e2 | e2
  · rw [← e2] at h0
    cases o with
    | lst ws => obtain ⟨vs, x, y⟩ := h1; obtain ⟨_, _, y0⟩ := h0; exact ⟨vs, x, RepVs.low k.pre y0 y⟩
    | dct ws => obtain ⟨vs, x, y⟩ := h1; obtain ⟨_, _, y0⟩ := h0; exact ⟨vs, x, RepKV.low k.pre y0 y⟩
    | fz ws => obtain ⟨od, vs, x, y⟩ := h1; obtain ⟨_, _, _, y0⟩ := h0; exact ⟨od, vs, x, RepKV.low k.pre y0 y⟩
    | set ws => exact h1
    | ins c ws => obtain ⟨dx, vs, x, z, y⟩ := h1; obtain ⟨_, _, _, _, y0⟩ := h0; exact ⟨dx, vs, x, z, RepFs.low k.pre y0 y⟩
  · exact RepO.cut k.pre (by rw [S.len]; exact e2) h1
theorem Kp.back {α α' : List Addr} {H H' : Hp} (k : Kp α H α' H') : Kp α H α H' := ⟨.refl _, k.kp, fun a u e n => ⟨(k.fr a u e n).1, n⟩⟩
theorem gc_post {p : Px} {α α' : List Addr} {g g' : G} {H H' : Hp} {w : W} {v : V} {Q : V → Hp → Prop} (S : Sim p α g H) (S' : Sim p α' g' H') (k : Kp α H α' H') (r : RepV p α' H' w v)
    (q : ∀ α' H' v, Kp α H α' H' → Sim p α' (gc g w g') H' → RepV p α' H' w v → Q v H') : Q v H' := by
  unfold gc at q
  split at q
  · rename_i h
    simp only [Bool.and_eq_true] at h
    exact q α H' v k.back (S.back S' k h.2) (RepV.cut k.pre (by rw [S.len]; exact h.1) r)
  · exact q α' H' v k S' r
theorem gc_exc {p : Px} {α α' : List Addr} {g g' : G} {H H' : Hp} {Q : Hp → Prop} (S : Sim p α g H) (S' : Sim p α' g' H') (k : Kp α H α' H')
    (q : ∀ α' H', Kp α H α' H' → Sim p α' (gc g .non g') H' → Q H') : Q H' := by
  unfold gc at q
  split at q
  · rename_i h
    simp only [Bool.and_eq_true] at h
    exact q α H' k.back (S.back S' k h.2)
  · exact q α' H' k S'
theorem start_sim {p : Px} {α : List Addr} {H : Hp} {ws : List W} {vs : List V} {N : List Str} (r : RepVs p α H ws vs) : SimSt p α H (startE N.length ws) (L2.start N vs) := by
  have hl := r.length
  refine ⟨by simp [startE, L2.start, hl], fun i w e => ?_⟩
  unfold startE at e
  by_cases hi : i < ws.length
  · rw [List.getElem?_append_left (by simpa using hi), List.getElem?_map] at e
    cases h : ws[i]? with
    | none => rw [h] at e; cases e
    | some w' =>
      rw [h] at e
      cases e
      obtain ⟨v, e1, e2⟩ := r.get h
      refine ⟨v, ?_, e2⟩
      unfold L2.start
      rw [List.getElem?_append_left (by simp; omega), List.getElem?_map, e1]
      rfl
  · rw [List.getElem?_append_right (by simp; omega), List.getElem?_replicate] at e
    split at e <;> cases e
/-- a body's run is a call's run -/
theorem body_run {p : Px} {T : Tbl} {call : CallF} {f : Fn} {ws : List W} {vs : List V} {g : G} {α : List Addr} {H : Hp} {N : List Str} {E : XK} {Q : VK} (hN : f.nn = N.length) (S : Sim p α g H) (r : RepVs p α H ws vs)
    (q : post p (fun cls d _ H' => E cls d H') (RepV p) (f.run T call ws g) α H [] Q) : tXs p (fun cls d _ H' => E cls d H') T call f.body { nx := fun _ H' => Q .non H', rt := Q } (L2.start N vs) H := by
  refine ⟨α, startE f.nn ws, g, S, hN ▸ start_sim r, ?_⟩
  unfold Fn.run at q
  split at q
  · cases hx : exs T call f.body (startE f.nn ws) g with
    | err => rw [hx] at q; exact q.elim
    | exc c ρ' g' =>
      rw [hx] at q
      intro α' H' σ' k S' _
      exact gc_exc S S' k fun α'' H'' k'' S'' => q α'' H'' k'' S''
    | go fl ρ' g' =>
      rw [hx] at q
      cases fl with
      | nx => exact fun α' H' σ' k S' _ => gc_post (v := .non) S S' k .non fun α'' H'' v k'' S'' r'' => q α'' H'' v k'' S'' r''
      | ret w => exact fun α' H' v k S' r' => gc_post S S' k r' fun α'' H'' v k'' S'' r'' => q α'' H'' v k'' S'' r''
      | brk => exact q.elim
      | cnt => exact q.elim
  · exact q.elim
end Dl

/-! DlQ: a text as data: its defs, classes, names; the calls of its functions are the interpreter's. -/
namespace Dl
open PySem L2
structure FnI where
  d : He.DefD
  N : List Str
  ps : List Str
  d0 : d.dfl = []
  k0 : d.kwd = []
  sc : FnScope N ps d.scope
  bd : ∀ (kV doc pm : Value) (an : Option Addr) (cdv ct : Value) (us : List Value), us.length = ps.length → bindArgs (PySem.W.fnOf d.name d.qual d.params d.body d.scope .none kV doc pm an cdv ct) ⟨us, []⟩ = pure (ps.zip us)
structure Pg where
  fns : List FnI
  cls : List (Str × Cl)
  exs : List Str
  gl : List (Str × GV)
  fld : List Nm
  sup : List (Nat × Nat) := []
namespace Pg
variable (g : Pg)
def cn (N : List Str) : Cn := ⟨g.gl, g.fld, N, false, g.sup⟩
def cnT (N : List Str) : Cn := ⟨g.gl, g.fld, N, true, g.sup⟩

def cname (k : Nat) : Str := match g.cls[k]? with
  | some (x, _) => x
  | none => ""
def xname (k : Nat) : Str := match g.exs[k]? with
  | some x => x
  | none => ""
def px (K : PySem.W.Frag) (w : World) : Px := ⟨K, fun k => He.ga K (g.cname k), fun k => He.ga K (g.xname k), g.cls.length, fun a => ∃ es n, KDict K w a es n⟩
/-- the written dicts: where, their keys -/
def ts : List He.Tab := g.gl.filterMap fun q => match q with
  | (x, .val (.fd ks _)) => some (fun K => He.ga K x, ks.map strV)
  | _ => none
def comp (f : FnI) : Option SL := (cSR (g.cn f.N) (cR (g.cn f.N) 40) 60).sts f.d.scope f.d.body
def tab : Tbl := ⟨g.fns.map fun f => ⟨f.ps.length, f.N.length, (g.comp f).getD .nil⟩, g.cls.map (·.2)⟩
def gfa : Str × GV → List He.Fa
  | (x, .fn _) => [.glo x]
  | (x, .cls k) => [.glo x, .cls x, .mkr x, .keep x] ++ ((g.fld.map fun f => .noat x (nmS f)) ++ (match g.cls[k]? with
    | some (_, cl) => cl.ms.map fun m => .meth x (nmS m.1)
    | none => []))
  | (x, .val (.int i)) => [.int x i]
  | (x, .val (.str s)) => [.str x (nmS s)]
  | (x, .val _) => []
  | (x, .exc _) => [.glo x, .exc x]
  | (x, .blt _) => [.free x]
  | (x, .ty _) => [.free x]
  | (x, .vex) => [.free x]
def fa : List He.Fa := g.gl.flatMap g.gfa
def fnAt (i : Nat) (x : Str) (m : Option Str) : Bool := match g.fns[i]? with
  | some fi => decide (fi.d.at_ = (x, m))
  | none => false
def gok : Str × GV → Bool
  | (x, .fn i) => g.fnAt i x none
  | (x, .cls k) => match g.cls[k]? with
    | some (y, cl) => decide (y = x) && (g.fnAt cl.init x (some "__init__") && cl.ms.all fun m => g.fnAt m.2 x (some (nmS m.1)))
    | none => false
  | (x, .val _) => true
  | (x, .exc k) => decide (g.exs[k]? = some x)
  | (x, .blt b) => decide (x = b.name)
  | (x, .ty t) => decide (x = t.name) && !(t.name == "")
  | (x, .vex) => decide (x = "ValueError")
def cok : Bool := (List.range g.cls.length).all fun k => match g.gl.lookup (g.cname k) with
  | some (.cls j) => decide (j = k)
  | _ => false
def ok : Bool := g.gl.all g.gok && (g.cok && g.fns.all fun f => (g.comp f).isSome)
end Pg
theorem lookup_mem {α : Type} {x : Str} {v : α} : ∀ {l : List (Str × α)}, l.lookup x = some v → (x, v) ∈ l
  | [], h => by simp at h
  | (y, u) :: r, h => by
    simp only [List.lookup] at h
    split at h
    · rename_i e
      cases h
      rw [eq_of_beq e]
      exact List.mem_cons_self ..
    · exact List.mem_cons_of_mem _ (lookup_mem h)
theorem findM_mem {m : Nm} {f : Nat} : ∀ {l : List (Nm × Nat)}, findM l m = some f → (m, f) ∈ l
  | [], h => by simp [findM] at h
  | (a, b) :: r, h => by
    simp only [findM] at h
    split at h
    · rename_i e
      cases h
      rw [e]
      exact List.mem_cons_self ..
    · exact List.mem_cons_of_mem _ (findM_mem h)
theorem kitOk (K : PySem.W.Frag) : KitOk K where
  b t c h1 h2 := by cases t <;> cases c <;> first | exact (h1 rfl).elim | exact (h2 rfl).elim | kernel_rfl
  n c h := by cases c <;> first | exact (h rfl).elim | kernel_rfl
/-- what a caught error's class must say -/
def excB (K : PySem.W.Frag) (D : Addr) : Bool :=
  decide (PySem.W.findIn K (.ref D) "__getattribute__" = some (some (.builtin "BaseException.__getattribute__"))) && (decide (PySem.W.findIn K (.ref D) "__getattr__" = some none) && (decide (PySem.W.subIn K (.ref D) (.type "BaseException") = some true) && (PySem.W.hasDictIn K D &&
    (decide (PySem.W.findIn K (.ref D) "__class__" = some (some (.builtin "object.__class__"))) && (decide (PySem.W.specialIn K (.builtin "object.__class__") "__get__" = some (some (.builtin "getset_descriptor.__get__"))) && (decide (PySem.W.takesIn K (.builtin "object.__class__") = some true) && (decide (PySem.W.mroIn K D (.type "object") = some true) &&
      (decide (PySem.W.exmOne K (.ref D) (.ref D) = some true) && decide (PySem.W.kitOne K (.ref D) (.type "ValueError") = some true)))))))))
def Pg.supB (g : Pg) (K : PySem.W.Frag) (q : Nat × Nat) : Bool := excB K (He.ga K (g.xname q.1)) && decide (PySem.W.kitOne K (.ref (He.ga K (g.xname q.1))) (.ref (He.ga K (g.xname q.2))) = some true)
/-- what the head told -/
structure Told (g : Pg) (w : World) (K : PySem.W.Frag) (mg : Str → Option Value) : Prop where
  ok : g.ok = true
  fa : ∀ f ∈ g.fa, f.ok K = true
  df : ∀ (i : Nat) (fi : FnI), g.fns[i]? = some fi → ∃ fd, FunD K fi.d.name fi.d.qual fi.d.params fi.d.body fi.d.scope [] [] (He.fAd K fi.d.at_) fd
  h : ∃ h : Heap, K.In h ∧ h.Ns mainGlobals mg
  val : ∀ x wv, g.gl.lookup x = some (.val wv) → (match wv with
    | .int _ => True
    | .str _ => True
    | _ => ∃ u v, mg x = some u ∧ RelV v u ∧ ∀ α H, RepV (g.px K w) α H wv v)
  sup : ∀ q ∈ g.sup, g.supB K q = true
/-- the functions, so deep -/
def AllOk (g : Pg) (P : Program) (w : World) (K : PySem.W.Frag) (mg : Str → Option Value) (base : Heap) (T : Tbl) (k : Nat) : Prop :=
  ∀ (i : Nat) (fi : FnI), g.fns[i]? = some fi → ∃ fd, FunD K fi.d.name fi.d.qual fi.d.params fi.d.body fi.d.scope [] [] (He.fAd K fi.d.at_) fd ∧ FnOk P w K mg base (L2.CX P w) (2 * k + 1) (He.fAd K fi.d.at_) fd fi.ps (spI (g.px K w) (callN T k) i)
section
variable {g : Pg} {P : Program} {w : World} {K : PySem.W.Frag} {mg : Str → Option Value} {base : Heap} {T : Tbl} {k : Nat}
theorem Told.fact (t : Told g w K mg) {x : Str} {v : GV} (h : g.gl.lookup x = some v) {f : He.Fa} (hf : f ∈ g.gfa (x, v)) : f.ok K = true :=
  t.fa f (List.mem_flatMap.mpr ⟨_, lookup_mem h, hf⟩)
theorem Told.gok (t : Told g w K mg) {x : Str} {v : GV} (h : g.gl.lookup x = some v) : g.gok (x, v) = true := by
  have := t.ok
  simp only [Pg.ok, Bool.and_eq_true] at this
  exact List.all_eq_true.mp this.1 _ (lookup_mem h)
theorem Told.comp (t : Told g w K mg) {i : Nat} {fi : FnI} (h : g.fns[i]? = some fi) : ∃ b, g.comp fi = some b := by
  have := t.ok
  simp only [Pg.ok, Bool.and_eq_true] at this
  exact Option.isSome_iff_exists.mp (List.all_eq_true.mp this.2.2 _ (List.mem_of_getElem? h))
theorem Told.glo (t : Told g w K mg) {x : Str} (h : (He.Fa.glo x).ok K = true) : mg x = some (.ref (He.ga K x)) := by
  obtain ⟨h', a, b⟩ := t.h
  exact He.glo_ok a b h
theorem Told.free (t : Told g w K mg) {x : Str} (h : (He.Fa.free x).ok K = true) : mg x = none := by
  obtain ⟨h', a, b⟩ := t.h
  exact He.free_ok a b h
theorem fnAt_ok {i : Nat} {x : Str} {m : Option Str} (h : g.fnAt i x m = true) : ∃ fi, g.fns[i]? = some fi ∧ fi.d.at_ = (x, m) := by
  unfold Pg.fnAt at h
  split at h
  · rename_i fi e
    exact ⟨fi, e, of_decide_eq_true h⟩
  · cases h
theorem AllOk.at_ {X : Cx} {lv : Nat} (A : AllOk g P w K mg base T k) (hP : X.prog = P) (hw : X.w = w) (hK : X.K = K) (hm : X.mg = mg) (hb : X.base = base) {i : Nat} {x : Str} {m : Option Str} (h : g.fnAt i x m = true) : FnAt (g.px K w) (callN T k) (2 * k + 1) X (He.fAd K (x, m)) i := by
  subst hP hw hK hm hb
  obtain ⟨fi, e, ea⟩ := fnAt_ok h
  obtain ⟨fd, F, O⟩ := A i fi e
  rw [ea] at F O
  refine ⟨⟨fd, fi.ps, O, ?_⟩, F.kp⟩
  exact F.bindsN fi.bd
theorem cls_fact (t : Told g w K mg) {k : Nat} {y : Str} {cl : Cl} (h : g.cls[k]? = some (y, cl)) : g.gl.lookup y = some (.cls k) := by
  have := t.ok
  simp only [Pg.ok, Bool.and_eq_true] at this
  have h2 := List.all_eq_true.mp this.2.1 k (List.mem_range.mpr (List.getElem?_eq_some_iff.mp h).1)
  have hc : g.cname k = y := by simp only [Pg.cname, h]
  rw [hc] at h2
  split at h2
  · rename_i j e
    rw [e, of_decide_eq_true h2]
  · cases h2
theorem facts_of (t : Told g w K mg) (A : AllOk g P w K mg base T k) (hT : T.cls = g.cls.map (·.2)) {X : Cx} (N : List Str) (hP : X.prog = P) (hw : X.w = w) (hK : X.K = K) (hm : X.mg = mg) (hb : X.base = base) : Facts (g.px K w) T (callN T k) (2 * k + 1) (g.cn N) X := by
  have hc : (g.cn N).gl = g.gl := rfl
  have clx : ∀ {c : Nat} {cl : Cl}, T.cls[c]? = some cl → ∃ y, g.cls[c]? = some (y, cl) := by
    intro c cl h
    rw [hT, List.getElem?_map, Option.map_eq_some_iff] at h
    obtain ⟨⟨y, cl'⟩, e, rfl⟩ := h
    exact ⟨y, e⟩
  have ca : ∀ {c : Nat} {y : Str} {cl : Cl}, g.cls[c]? = some (y, cl) → (g.px K w).ca c = He.ga K y := by
    intro c y cl h
    show He.ga K (g.cname c) = _
    simp only [Pg.cname, h]
  refine ⟨?_, ?_, ?_, ?_, ?_, ?_, ⟨?_⟩, ?_, hK ▸ kitOk K, ?_, ?_⟩
  · intro x i h
    exact ⟨He.ga K x, by rw [hm]; exact t.glo (t.fact h (by simp [Pg.gfa])), A.at_ (lv := 0) hP hw hK hm hb (t.gok h)⟩
  · intro x c h
    have g1 := t.gok h
    simp only [Pg.gok] at g1
    split at g1
    · rename_i y cl e
      simp only [Bool.and_eq_true, decide_eq_true_eq] at g1
      obtain ⟨rfl, g2, g3⟩ := g1
      rw [ca e]
      refine ⟨by rw [hm]; exact t.glo (t.fact h (by simp [Pg.gfa])), ⟨?_, (List.getElem?_eq_some_iff.mp e).1⟩, by rw [hK]; exact t.fact (f := .keep y) h (by simp [Pg.gfa])⟩
      obtain ⟨⟨fd, ps, F, B⟩, kp⟩ := A.at_ (X := X) (lv := 0) hP hw hK hm hb g2
      refine ⟨cl, _, fd, ps, by rw [hT, List.getElem?_map, e]; rfl, ?_, F, B⟩
      rw [ca e, hK]
      exact He.mkr_ok (t.fact h (by simp [Pg.gfa]))
    · cases g1
  · intro x v h
    have hv := t.val x v h
    cases v with
    | int i =>
      obtain ⟨h', a, b⟩ := t.h
      obtain ⟨u, e⟩ := He.int_ok a b (t.fact (f := .int x i) h (by simp [Pg.gfa]))
      exact ⟨_, .int i, by rw [hm]; exact e, ⟨_, rfl⟩, fun α H => .int⟩
    | str s =>
      obtain ⟨h', a, b⟩ := t.h
      obtain ⟨u, e⟩ := He.str_ok a b (t.fact (f := .str x (nmS s)) h (by simp [Pg.gfa]))
      exact ⟨_, .str (nmS s), by rw [hm]; exact e, ⟨_, rfl⟩, fun α H => by simp only [RepV]⟩
    | _ => exact hm ▸ hv
  · intro x c h
    have g1 := t.gok h
    simp only [Pg.gok, decide_eq_true_eq] at g1
    have e1 : (g.px K w).xa c = He.ga K x := by
      show He.ga K (g.xname c) = _
      simp only [Pg.xname, g1]
    rw [e1, hK]
    obtain ⟨a1, a2, a3, a4⟩ := He.exc_ok (t.fact (f := .exc x) h (by simp [Pg.gfa]))
    exact ⟨by rw [hm]; exact t.glo (t.fact h (by simp [Pg.gfa])), a1, a2, raises_own (by rw [hK]; exact a3) (by rw [hK]; exact a4)⟩
  · intro x b h
    have g1 := t.gok h
    simp only [Pg.gok, decide_eq_true_eq] at g1
    exact ⟨g1, by rw [hm]; exact t.free (t.fact h (by simp [Pg.gfa]))⟩
  · intro x y h
    have g1 := t.gok h
    simp only [Pg.gok, Bool.and_eq_true, decide_eq_true_eq, Bool.not_eq_true', beq_eq_false_iff_ne] at g1
    exact ⟨g1.1, by rw [hm]; exact t.free (t.fact h (by simp [Pg.gfa])), g1.2⟩
  · intro c cl m f h1 h2
    obtain ⟨y, e⟩ := clx h1
    have h := cls_fact t e
    have g1 := t.gok h
    simp only [Pg.gok, e, Bool.and_eq_true, decide_eq_true_eq] at g1
    obtain ⟨_, g2, g3⟩ := g1
    have g4 := List.all_eq_true.mp g3 _ (findM_mem h2)
    rw [ca e, hK]
    refine ⟨He.cls_ok (t.fact h (by simp [Pg.gfa])), _, He.meth_ok (m := nmS m) (t.fact h ?_), A.at_ (lv := 0) hP hw hK hm hb g4⟩
    simp only [Pg.gfa, e, List.mem_append, List.mem_map]
    exact .inr (.inr ⟨_, findM_mem h2, rfl⟩)
  · intro f hf c hcl
    obtain ⟨⟨y, cl⟩, e⟩ : ∃ z, g.cls[c]? = some z := ⟨_, List.getElem?_eq_getElem hcl⟩
    have h := cls_fact t e
    rw [ca e]
    refine ⟨He.cls_ok (t.fact h (by simp [Pg.gfa])), He.noat_ok (t.fact h ?_)⟩
    simp only [Pg.gfa, List.mem_append, List.mem_map]
    exact .inr (.inl ⟨f, by have h5 : g.fld.contains f = true := hf; simpa using h5, rfl⟩)
  · intro k j h
    have h := t.sup _ h
    simp only [Pg.supB, excB, Bool.and_eq_true, decide_eq_true_eq] at h
    obtain ⟨⟨a1, a2, a3, a4, a5, a6, a7, a8, a9, a10⟩, a11⟩ := h
    rw [hK]
    exact ⟨⟨a1, a2, a3, a4, a5, a6, a7, a8⟩, a9, a10, a11⟩
  · intro x h
    have g1 := t.gok h
    simp only [Pg.gok, decide_eq_true_eq] at g1
    exact ⟨g1, by rw [hm]; exact t.free (t.fact h (by simp [Pg.gfa]))⟩
theorem all_ok (t : Told g w K mg) (hT : T = g.tab) : ∀ k, AllOk g P w K mg base T k := by
  intro k
  induction k with
  | zero =>
    intro i fi e
    obtain ⟨fd, F⟩ := t.df i fi e
    refine ⟨fd, F, F.ok fi.sc (fun vs H Q E h => ?_) fun cdv A outer s H vs Q E hr h => ?_⟩
    all_goals
      obtain ⟨α, g', ws, _, _, q⟩ := h
      exact q.elim
  | succ k ih =>
    intro i fi e
    obtain ⟨fd, F⟩ := t.df i fi e
    obtain ⟨b, hb⟩ := t.comp e
    have hfn : T.fns[i]? = some ⟨fi.ps.length, fi.N.length, b⟩ := by
      rw [hT]
      show (g.fns.map _)[i]? = _
      rw [List.getElem?_map, e]
      simp only [Option.map_some, hb, Option.getD_some]
    have hrun : ∀ ws g', callN T (k + 1) i ws g' = Fn.run T (callN T k) ⟨fi.ps.length, fi.N.length, b⟩ ws g' := by
      intro ws g'
      simp only [callN, hfn]
    refine ⟨fd, F, F.ok (k := 2 * k + 2) fi.sc (fun vs H Q E h => ?_) fun cdv A outer s H vs Q E hr h => ?_⟩
    · obtain ⟨α, g', ws, S, r, q⟩ := h
      rw [hrun] at q
      unfold Fn.run at q
      split at q
      · rename_i hl
        rw [← r.length]; exact hl
      · exact q.elim
    · obtain ⟨α, g', ws, S, r, q⟩ := h
      rw [hrun] at q
      refine ⟨_, (sndS (snd 40) 60).sts (p := g.px K w) (T := T) (call := callN T k) (lv := 2 * k + 1) (c := g.cn fi.N) (Wx := fun cls d _ H' => E cls d H') (sc := fi.d.scope) ?_ (fun _ _ => rfl) ⟨rfl, rfl⟩ hb, body_run rfl S r q⟩
      exact ⟨rfl, fun a h => h, (fun h => nomatch h), rfl, rfl, fi.sc.nd, rfl, takes_of rfl rfl rfl rfl, passes_of rfl, hr, facts_of t ih (by rw [hT]; rfl) fi.N rfl rfl rfl rfl rfl⟩
end
end Dl

/-! DlR: from what the head tells to a law's answer. -/
namespace Dl
open PySem L2
mutual
/-- the written part's value is that value -/
def repB (K : PySem.W.Frag) : W → Value → Bool
  | .non, .none => true
  | .bl b, .bool c => b == c
  | .int i, .int j _ => decide (i = j)
  | .str s, .str y _ => decide (strV s = y)
  | .tup ws, .ref a => match K.lookup a with
    | some ⟨.type c, _, .seq its _, _⟩ => decide (c = "tuple") && (decide (its.size ≤ sizeLine) && repsB K ws its.toList)
    | _ => false
  | _, _ => false
def repsB (K : PySem.W.Frag) : List W → List Value → Bool
  | [], [] => true
  | w :: r, u :: q => repB K w u && repsB K r q
  | _, _ => false
end
mutual
theorem repB_ok {p : Px} : ∀ {w : W} {u : Value}, repB p.K w u = true → ∃ v, RelV v u ∧ ∀ α H, RepV p α H w v
  | .non, u, h => by
    cases u <;> simp [repB] at h
    exact ⟨.non, rfl, fun α H => by simp only [RepV]⟩
  | .bl b, u, h => by
    cases u <;> simp [repB] at h
    subst h
    exact ⟨.bl b, rfl, fun α H => by simp only [RepV]⟩
  | .int i, u, h => by
    cases u <;> simp [repB] at h
    subst h
    exact ⟨.int i, ⟨_, rfl⟩, fun α H => by simp only [RepV]⟩
  | .str s, u, h => by
    cases u <;> simp [repB] at h
    subst h
    exact ⟨.str _, ⟨_, rfl⟩, fun α H => by simp only [RepV]⟩
  | .tup ws, u, h => by
    cases u <;> simp only [repB] at h <;> try (cases h; done)
    rename_i a
    split at h
    · rename_i c dd its n sl e
      simp only [Bool.and_eq_true, decide_eq_true_eq] at h
      obtain ⟨rfl, h2, h3⟩ := h
      obtain ⟨vs, r, R⟩ := repsB_ok h3
      refine ⟨.ref a, rfl, fun α H => ?_⟩
      simp only [RepV]
      exact ⟨a, vs, rfl, .inr ⟨_, its, n, e, rfl, rfl, h2, r⟩, R α H⟩
    · cases h
  | .ref _, u, h => by cases u <;> simp [repB] at h
  | .exn _, u, h => by cases u <;> simp [repB] at h
  | .fl _, u, h => by cases u <;> simp [repB] at h
  | .fd _ _, u, h => by cases u <;> simp [repB] at h
theorem repsB_ok {p : Px} : ∀ {ws : List W} {us : List Value}, repsB p.K ws us = true → ∃ vs, Vals vs us ∧ ∀ α H, RepVs p α H ws vs
  | [], us, h => by
    cases us with
    | nil => exact ⟨[], .nil, fun α H => .nil⟩
    | cons _ _ => simp [repsB] at h
  | w :: ws, us, h => by
    cases us with
    | nil => simp [repsB] at h
    | cons u us =>
      simp only [repsB, Bool.and_eq_true] at h
      obtain ⟨v, r, R⟩ := repB_ok h.1
      obtain ⟨vs, r2, R2⟩ := repsB_ok h.2
      exact ⟨v :: vs, .cons r r2, fun α H => .cons (R α H) (R2 α H)⟩
end
/-- the entries of a written dict -/
def entB (es : List PySem.DictEntry) (ks : List (List Nat)) : Bool := match es, ks with
  | [], [] => true
  | e :: r, k :: q => (match e.key with | .str y _ => decide (strV k = y) | _ => false) && entB r q
  | _, _ => false
theorem ent_find (z : List Nat) : ∀ {es : List PySem.DictEntry} {ks : List (List Nat)}, entB es ks = true → es.length = ks.length ∧
    (match es.find? (·.key.isStr (strV z)) with
      | some e => some (some e.val)
      | none => if es.any (·.refKey) then none else some none) = some ((ks.zip (es.map (·.val))).lookup z)
  | [], [], _ => ⟨rfl, rfl⟩
  | e :: r, k :: q, h => by
    simp only [entB, Bool.and_eq_true] at h
    obtain ⟨h1, h2⟩ := ent_find z h.2
    have h0 := h.1
    obtain ⟨hsh, key, vl⟩ := e
    cases key <;> simp only at h0 <;> try (cases h0; done)
    rename_i y t
    have h0 := of_decide_eq_true h0
    subst h0
    refine ⟨by simp [h1], ?_⟩
    by_cases hz : z = k
    · subst hz
      simp [List.find?_cons, Value.isStr, List.lookup_cons]
    · have e1 : (strV k == strV z) = false := by rw [strV_beq]; exact beq_eq_false_iff_ne.mpr fun e => hz e.symm
      have e2 : (z == k) = false := beq_eq_false_iff_ne.mpr hz
      have e3 : PySem.DictEntry.refKey ⟨hsh, .str (strV k) t, vl⟩ = false := rfl
      have e4 : (Value.str (strV k) t).isStr (strV z) = false := e1
      simp only [List.find?_cons, e4, List.map_cons, List.zip_cons_cons, List.lookup_cons, e2, List.any_cons, e3, Bool.false_or]
      exact h2
  | [], _ :: _, h => by simp [entB] at h
  | _ :: _, [], h => by simp [entB] at h
def valB (K : PySem.W.Frag) : Str × GV → Bool
  | (_, .val (.int _)) => true
  | (_, .val (.str _)) => true
  | (x, .val (.fd ks ws)) => He.eqO (PySem.W.nsIn K mainGlobals x) (some (some (.ref (He.ga K x)))) && (match K.lookup (He.ga K x) with
    | some ⟨_, _, .dict es _, _⟩ => entB es.toList ks && repsB K ws (es.toList.map (·.val))
    | _ => false)
  | (x, .val w) => match PySem.W.nsIn K mainGlobals x with
    | some (some u) => repB K w u
    | _ => false
  | _ => true
def Pg.ex (g : Pg) (K : PySem.W.Frag) : Bool := g.gl.all (valB K) && g.sup.all (g.supB K)
theorem told_of {g : Pg} {K : PySem.W.Frag} {h : Heap} {mg : Str → Option Value} {w : World} {fa : List He.Fa} {dfs : List He.DefD} (ok : g.ok = true) (hfa : ∀ f ∈ g.fa, f ∈ fa) (hdf : ∀ (i : Nat) (fi : FnI), g.fns[i]? = some fi → dfs[i]? = some fi.d) (X : K.In h) (G : h.Ns mainGlobals mg) (c : He.SaysX fa dfs g.ts [] g.ex w h K) : Told g w K mg := by
  have more : g.gl.all (valB K) = true ∧ g.sup.all (g.supB K) = true := by
    have : g.ex K = true := c.more
    simpa only [Pg.ex, Bool.and_eq_true] using this
  refine ⟨ok, fun f hf => c.t.d.facts (hfa f hf), fun i fi e => ?_, ⟨h, X, G⟩, fun x v hl => ?_, fun q hq => List.all_eq_true.mp more.2 q hq⟩
  · obtain ⟨fd, F⟩ := c.t.d.def_ i (d := fi.d) (hdf i fi e)
    have e1 : fi.d.dvs K = [] := by simp only [He.DefD.dvs, fi.d0, List.map_nil]
    have e2 : fi.d.kws K = [] := by simp only [He.DefD.kws, fi.k0, List.map_nil]
    rw [e1, e2] at F
    exact ⟨fd, F⟩
  · have hx := List.all_eq_true.mp more.1 _ (lookup_mem hl)
    have gen : ∀ wv : W, (match PySem.W.nsIn K mainGlobals x with
        | some (some u) => repB K wv u
        | _ => false) = true → ∃ u v, mg x = some u ∧ RelV v u ∧ ∀ α H, RepV (g.px K w) α H wv v := by
      intro wv hx
      split at hx
      · rename_i u e
        obtain ⟨v, r, R⟩ := repB_ok (p := g.px K w) hx
        exact ⟨u, v, PySem.W.mg_of X G e, r, R⟩
      · cases hx
    cases v with
    | int _ => trivial
    | str _ => trivial
    | fd ks ws =>
      simp only [valB, Bool.and_eq_true] at hx
      obtain ⟨hx1, hx⟩ := hx
      split at hx
      · rename_i cl dd es n sl e
        simp only [Bool.and_eq_true] at hx
        obtain ⟨vs, r, R⟩ := repsB_ok (p := g.px K w) hx.2
        have hm : ∃ i : Nat, g.ts[i]? = some (fun K => He.ga K x, ks.map strV) := by
          apply List.mem_iff_getElem?.mp
          exact List.mem_filterMap.mpr ⟨_, lookup_mem hl, rfl⟩
        obtain ⟨i, hi⟩ := hm
        obtain ⟨es', n', D⟩ := c.t.tab i hi
        refine ⟨.ref (He.ga K x), .ref (He.ga K x), PySem.W.mg_of X G (He.eqO_ok hx1), rfl, fun α H => ?_⟩
        simp only [RepV]
        refine ⟨_, es.toList.map (·.val), vs, rfl, ⟨es', n', D⟩, r, by simpa using (ent_find [] hx.1).1, fun z => ?_, R α H⟩
        show PySem.W.nsIn K _ _ = _
        unfold PySem.W.nsIn
        rw [e]
        exact (ent_find z hx.1).2
      · cases hx
    | non => exact gen _ hx
    | bl b => exact gen _ hx
    | tup ws => exact gen _ hx
    | ref _ => exact gen _ hx
    | exn _ => exact gen _ hx
    | fl _ => exact gen _ hx
/-- walk_ofE, where what a def may let out is told by the world -/
theorem walk_w {l : PySem.W.OpenLaw} {top k : Nat} {q : Program} {names : List Str} {XP : (Str → Option Value) → Heap → Prop} {YP : World → Heap → Prop} {d : DefRec} {CX : World → CXT} {x : Str}
    (h1 : l.most = some top) (h2 : top ≤ sizeLine) (h3 : d.params.defaults = []) (room : Room k callerA)
    (F : ∀ (w : World) (mg : Str → Option Value) (f : Addr) (h : Heap), YP w h → h.Ns mainGlobals mg → mg d.name = some (.ref f) →
      ∃ (K : PySem.W.Frag) (fd : FuncData) (sp : Sp), K.In h ∧ (∀ (s : Shared) (u : Value), BindsTo s fd ⟨[u], []⟩ [(x, u)]) ∧
        (∀ (H : Hp) (a : Addr) (ns : List Int), ns.length ≤ top → Only H → SqL K H a (ns.map V.int) → sp [.ref a] H (fun v _ => v = .bl true) fun _ _ _ => False) ∧
        ∀ base : Heap, K.In base → base.Ns mainGlobals mg → FnOk l.prog w K mg base (CX w) k f fd [x] sp)
    (none : ∀ (w : World) (H : Hp) (s : Shared) (e : Value) (s' : Shared), CX w [] H s (fun _ _ _ => False) e s' → False) : PySem.W.WalkO q names XP YP l.row.toRowW d [] (fun f vs => PySem.call f vs) := by
  refine Att.attach_call h1 h3 fun w s₀ s₁ mg mb f o pm cd doc a vs ns G Y ho hd hcd hmg hobj hints hlen hg => ?_
  obtain ⟨K, fd, sp, KX, hb, hsp, hF⟩ := F w mg f _ Y G.T.g hmg
  exact law_call KX G.T.g G.T.b G.T.builtins G.T.nolimit hg hobj hints (Nat.le_trans hlen h2) room hF hb (fun H hO hS => hsp H a ns hlen hO hS) fun H e s' => none w H s₁ e s'
theorem cx_none {P : Program} {w : World} {o : List PySem.Env} {H : Hp} {s : Shared} {e : Value} {s' : Shared} (h : L2.CX P w o H s (fun _ _ _ => False) e s') : False := by
  obtain ⟨_, _, _, _, _, _, _, _, _, _, _, _, _, z⟩ := h
theorem only_fl {K : PySem.W.Frag} {H : Hp} {a : Addr} {ns : List Int} (hO : Only H) (hS : SqL K H a (ns.map V.int)) : SqF K H a (ns.map V.int) := by
  rcases hS with (h | h) | h
  · rcases hO a with n | ⟨o, xs, n⟩ <;> rw [h] at n <;> cases n
  · exact .inl h
  · exact .inr h
/-- THE END: the interpreter's answer is the law's -/
theorem law_of {g : Pg} {T : Tbl} {P : Program} {w : World} {K : PySem.W.Frag} {mg : Str → Option Value} {h : Heap} {f : Addr} {k i top : Nat} {fi : FnI} {x : Str} (hT : T = g.tab) (ok : g.ok = true) (X : K.In h) (G : h.Ns mainGlobals mg) (c : He.SaysX g.fa (g.fns.map (·.d)) g.ts [] g.ex w h K)
    (hi : g.fns[i]? = some fi) (hp : fi.ps = [x]) (hat : He.fAd K fi.d.at_ = f)
    (law : ∀ ns : List Int, ns.length ≤ top → ∃ g', callN T k i [.fl (ns.map W.int)] [] = .ok (.bl true) g') :
    ∃ (fd : FuncData) (sp : Sp), (∀ (s : Shared) (u : Value), BindsTo s fd ⟨[u], []⟩ [(x, u)]) ∧
      (∀ (H : Hp) (a : Addr) (ns : List Int), ns.length ≤ top → Only H → SqL K H a (ns.map V.int) → sp [.ref a] H (fun v _ => v = .bl true) fun _ _ _ => False) ∧
      ∀ base : Heap, K.In base → base.Ns mainGlobals mg → FnOk P w K mg base (L2.CX P w) (2 * k + 1) f fd [x] sp := by
  have t := told_of ok (fun _ h => h) (fun i fi e => by rw [List.getElem?_map, e]; rfl) X G c
  obtain ⟨fd0, F0⟩ := t.df i fi hi
  have key : ∀ base : Heap, FnOk P w K mg base (L2.CX P w) (2 * k + 1) f fd0 [x] (spI (g.px K w) (callN T k) i) := by
    intro base
    obtain ⟨fd, F, O⟩ := all_ok (P := P) (w := w) (base := base) t hT k i fi hi
    rw [hat, hp] at O
    have : fd = fd0 := by
      obtain ⟨_, _, _, _, _, _, _, _, _, _, _, l1, _⟩ := F.ex
      obtain ⟨_, _, _, _, _, _, _, _, _, _, _, l2, _⟩ := F0.ex
      rw [l1] at l2
      cases l2
      rfl
    exact this ▸ O
  refine ⟨fd0, _, ?_, ?_, fun base _ _ => key base⟩
  · intro s u
    have b := F0.bindsA fi.bd s [u] (by rw [hp]; rfl)
    rw [hp] at b
    exact b
  · intro H a ns hl hO hS
    obtain ⟨g', e⟩ := law ns hl
    refine ⟨[], [], [.fl (ns.map W.int)], ⟨rfl, fun i o a h => (by simp at h), by simp⟩, .cons (by
      simp only [RepV]
      exact ⟨a, ns.map V.int, rfl, only_fl hO hS, rep_ints⟩) .nil, ?_⟩
    rw [e]
    intro α' H' v _ _ r
    exact r.bl'
end Dl

/-! DlW: the law's own run, called by nothing but the claim: no repr is under way. -/
namespace Dl
open PySem PySem.Spec PyProof.Rows L2
theorem room_caller {k : Nat} (h : 3 * k + 6 + claimMargin < recursionLimit) (h2 : 16 * k + 204 < cLine) : Room k callerA := ⟨rfl, by show 1 + claimMargin + 3 * k + 5 < _; omega, by show 4 + 16 * k + 200 < _; omega⟩
/-- nothing is tracked but the script -/
theorem only_script {P : Program} {w : World} {K : PySem.W.Frag} {s : Shared} {a : Addr} {vs : List Value} {ns : List Int} (KX : K.In s.heap) (ha : s.heap.get? a = some { cls := .type "list", data := .seq vs.toArray }) (hi : IntsAre vs ns) (hl : ns.length ≤ sizeLine) :
    ∃ H : Hp, Only H ∧ SqL K H a (ns.map V.int) ∧ HOk P w H s.heap ∧ ∀ b, H b ≠ none → b = a ∧ K.lookup a = none := by
  have rv := vals_ints hi
  cases hk : K.lookup a with
  | some o =>
    have e := KX a o hk
    rw [ha] at e
    cases e
    refine ⟨fun _ => none, fun _ => .inl rfl, .inr ⟨_, vs.toArray, _, hk, rfl, rfl, rfl, ?_, by simpa using rv⟩, fun b u z => ?_, fun b z => absurd rfl z⟩
    · rw [List.size_toArray, hi.length]; exact hl
    · have z2 : (none : Option HO) = some u := z
      cases z2
  | none =>
    refine ⟨fun b => if b = a then some (.frz { cls := .type "list", data := .seq vs.toArray } (.lst (ns.map V.int))) else none, fun b => ?_, .inl (.inr ⟨_, if_pos rfl⟩), fun b u z => ?_, fun b z => ⟨?_, rfl⟩⟩
    · rcases Decidable.em (b = a) with e | e
      · exact .inr ⟨_, _, if_pos e⟩
      · exact .inl (if_neg e)
    · rcases Decidable.em (b = a) with e | e
      · have z2 := (if_pos e).symm.trans z
        cases z2
        subst e
        exact ⟨ha, by rw [List.length_map]; exact hl, vs, _, rv, ha⟩
      · exact nomatch (if_neg e).symm.trans z
    · rcases Decidable.em (b = a) with e | e
      · exact e
      · exact absurd (if_neg e) z
def yes : VK := fun v _ => v = .bl true
theorem law_top {P : Program} {w : World} {K : PySem.W.Frag} {mg mb : Str → Option Value} {CX : CXT} {k : Nat} {fa a : Addr} {fd : FuncData} {x qx qual : Str} {params : Arguments} {body : List Stmt} {scope : Scope} {N : List Str} {s₁ : Shared} {vs : List Value} {ns : List Int}
    (KX : K.In s₁.heap) (gl : s₁.heap.Ns mainGlobals mg) (bl : s₁.heap.Ns builtinsNs mb) (bb : ∀ x : Str, x ≠ "__name__" → mb x = bootBuiltins x) (nl : s₁.heap.NoLimit) (gn : s₁.gens = #[])
    (ha : s₁.heap.get? a = some { cls := .type "list", data := .seq vs.toArray }) (hi : IntsAre vs ns) (hl : ns.length ≤ sizeLine) (hr : Room (k + 1) callerA)
    (F : FunD K qx qual params body scope [] [] fa fd) (S : FnScope N [x] scope) (hbind : ∀ (s : Shared) (u : Value), BindsTo s fd ⟨[u], []⟩ [(x, u)])
    (walk : ∀ (base : Heap) (cdv : Value) (s : Shared) (H : Hp), Room k (callerA.deeper (envOfC qual scope s.heap.objs.size fa cdv)) → Only H → SqL K H a (ns.map V.int) →
      ∃ t, PSs (cxOf CX P w K mg base N qual scope fa cdv callerA [] s H fun _ _ _ => False) body t ∧ t { nx := fun _ H' => yes .non H', rt := yes } (L2.start N [.ref a]) H)
    (noX : ∀ H e s', CX [] H s₁ (fun _ _ _ => False) e s' → False) :
    codeAny (model P w) callerA (.call (.ref fa) ⟨[.ref a], []⟩) (fun r s' => r = .ok (.ret (.bool true)) ∧ OldK s₁.heap s'.heap ∧ s'.os = s₁.os ∧ AllBare s'.gens) s₁ := by
  obtain ⟨H, hO, hS, hok, hA⟩ := only_script (P := P) (w := w) KX ha hi hl
  have up : ∀ {b : Addr} {o : Obj}, s₁.heap.get? b = some o → (∀ vs n, o.data ≠ .seq vs n) → (hidT s₁.heap H).get? b = some o := fun {b o} e d => by
    refine hidT_get e ?_
    cases q : H b with
    | none => rfl
    | some u =>
      obtain ⟨rfl, _⟩ := hA b (by rw [q]; simp)
      rw [ha] at e
      cases e
      exact absurd rfl (d _ _)
  have upN : ∀ {b : Addr} {m : Str → Option Value}, s₁.heap.Ns b m → (hidT s₁.heap H).Ns b m := fun ⟨o, es, ep, e, d, r⟩ => ⟨o, es, ep, up e (fun vs n z => by rw [d] at z; cases z), d, r⟩
  have KB : K.In (hidT s₁.heap H) := fun b o e => hidT_get (KX b o e) (by
    cases q : H b with
    | none => rfl
    | some u =>
      obtain ⟨rfl, z⟩ := hA b (by rw [q]; simp)
      rw [z] at e; cases e)
  have md : Mod K mg (hidT s₁.heap H) := ⟨KB, upN gl, ⟨mb, upN bl, bb⟩, let ⟨m, u, v⟩ := nl; ⟨m, upN u, v⟩⟩
  have e0 : Env0 P w K mg (hidT s₁.heap H) callerA [] s₁ H := ⟨rfl, md, fun b o e => of_hidT e, Nat.le_of_eq (hidT_size _ _), trivial, (fun b hb => (List.not_mem_nil hb).elim), hok, .of_eq gn⟩
  obtain ⟨oc, od, dV, kV, doc, pm, an, cdv, ct, osl, rfl, lk, cr, _, _⟩ := F.ex
  have loc : ∀ y ∈ [x].zip [Value.ref a], scope.names.lookup y.1 = some .local ∨ (scope.names.lookup y.1 = some .cell ∧ ((cellsFrom (s₁.heap.objs.size + 1) scope.names []).lookup y.1).isSome = true) := fun ⟨n, v⟩ hy => by
    rcases S.par n (List.of_mem_zip hy).1 with q | q
    · exact .inl q
    · exact .inr ⟨q, PySem.W.cellsFrom_some _ _ _ (.inl q)⟩
  refine codeAny_call_function hr.depth (KX _ _ lk) rfl S.co S.gen rfl (PySem.W.codeRec_of KX cr) (hbind s₁ (.ref a) _ _ _ _ ?_)
  refine wpAny_newFunctionEnv_cells S.kind loc fun env he s1 cl => ?_
  subst he
  refine ⟨nl.keeps cl.toInCall.keep, codeAny_func ?_⟩
  obtain ⟨t, ht, hq⟩ := walk (hidT s₁.heap H) cdv s₁ H (hr.deeper _) hO hS
  have I := inv_start (CX := CX) (E := fun _ _ _ => False) S hr.hd e0 rfl (.cons (show RelV (V.ref a) (Value.ref a) from rfl) .nil) cl
  refine wpAny_mono (ht.run [] s1 _ H _ I hq) (fun fl s' h => ?_) fun e s' h => wpAny_mono h (fun _ s2 z => (noX H e s2 z).elim) fun e2 s2 z => (noX H e2 s2 z).elim
  cases fl with
  | ret u =>
    obtain ⟨v, σ', H', J, r, q⟩ := h
    have q : v = .bl true := q
    subst q
    obtain rfl : u = Value.bool true := r
    refine ⟨rfl, OldK.of_keep fun b o e => ?_, J.os, J.bare⟩
    cases q : H b with
    | none => exact J.base.keep b o e q (fun z => nomatch z) (fun z => nomatch z)
    | some u =>
      rcases hO b with z | ⟨ob, xs, z⟩
      · rw [q] at z; cases z
      · have z2 := J.base.frzs b ob _ z
        obtain ⟨e1, _⟩ := hok b _ z
        obtain ⟨e2, _⟩ := J.hok b _ z2
        rw [e] at e1
        cases e1
        exact e2
  | next =>
    obtain ⟨_, _, _, q⟩ := h
    have q : V.non = V.bl true := q
    cases q
  | brk => obtain ⟨_, _, _, q⟩ := h; exact q.elim
  | cont => obtain ⟨_, _, _, q⟩ := h; exact q.elim
end Dl

/-! DlX: the end of a law whose own def asks for repr: it stands by itself, beside the table. -/
namespace Dl
open PySem L2
def Pg.compT (g : Pg) (f : FnI) : Option SL := (cSR (g.cnT f.N) (cR (g.cnT f.N) 40) 60).sts f.d.scope f.d.body
theorem yes_go {p : Px} {a : Addr} {K : PySem.W.Frag} (hK : p.K = K) {T : Tbl} {call : CallF} {N : List Str} {b : SL} {ns : List Int} {H : Hp} {E : XK} (hO : Only H) (hS : SqL K H a (ns.map V.int)) {g' : G} (e : Fn.run T call ⟨1, N.length, b⟩ [.fl (ns.map W.int)] [] = .ok (.bl true) g') :
    tXs p (fun cls d _ H' => E cls d H') T call b { nx := fun _ H' => yes .non H', rt := yes } (L2.start N [.ref a]) H := by
  refine body_run (f := ⟨1, N.length, b⟩) (ws := [.fl (ns.map W.int)]) (g := []) (α := []) rfl ⟨rfl, fun i o a h => (by simp at h), by simp⟩ (.cons ?_ .nil) ?_
  · simp only [RepV]
    exact ⟨a, ns.map V.int, rfl, only_fl hO (hK ▸ hS), rep_ints⟩
  · rw [e]
    intro α' H' v _ _ r
    exact r.bl'
theorem walk_t {l : PySem.W.OpenLaw} {top k : Nat} {q : Program} {names : List Str} {XP : (Str → Option Value) → Heap → Prop} {YP : World → Heap → Prop} {d : DefRec} {x : Str} {g : Pg} {fl : FnI} {b : SL} {T : Tbl}
    (h1 : l.most = some top) (h2 : top ≤ sizeLine) (h3 : d.params.defaults = []) (room : Room (2 * k + 3) callerA) (hT : T = g.tab) (hb : g.compT fl = some b) (hp : fl.ps = [x])
    (F : ∀ (w : World) (mg : Str → Option Value) (f : Addr) (h : Heap), YP w h → h.Ns mainGlobals mg → mg d.name = some (.ref f) →
      ∃ (K : PySem.W.Frag) (fd : FuncData), K.In h ∧ FunD K fl.d.name fl.d.qual fl.d.params fl.d.body fl.d.scope [] [] f fd ∧ Told g w K mg)
    (law : ∀ ns : List Int, ns.length ≤ top → ∃ g', Fn.run T (callN T k) ⟨1, fl.N.length, b⟩ [.fl (ns.map W.int)] [] = .ok (.bl true) g') : PySem.W.WalkO q names XP YP l.row.toRowW d [] (fun f vs => PySem.call f vs) := by
  refine Att.attach_call h1 h3 fun w s₀ s₁ mg mb f o pm cd doc a vs ns G Y ho hd hcd hmg hobj hints hlen hg => ?_
  obtain ⟨K, fd, KX, FD, t⟩ := F w mg f _ Y G.T.g hmg
  refine law_top (k := 2 * k + 2) (CX := L2.CX l.prog w) (x := x) KX G.T.g G.T.b G.T.builtins G.T.nolimit hg hobj hints (Nat.le_trans hlen h2) room FD (hp ▸ fl.sc) (fun s u => ?_) (fun base cdv s H hr hO hS => ?_) fun H e s' z => cx_none z
  · have q := FD.bindsA fl.bd s [u] (by rw [hp]; rfl)
    rw [hp] at q
    exact q
  · obtain ⟨g', e⟩ := law ns hlen
    refine ⟨_, (sndS (snd 40) 60).sts (p := g.px K w) (T := T) (call := callN T k) (lv := 2 * k + 1) (c := g.cnT fl.N) (Wx := fun cls d _ H' => False) (sc := fl.d.scope) ?_ (fun _ _ => rfl) ⟨rfl, rfl⟩ hb, yes_go (E := fun _ _ _ => False) rfl hO hS e⟩
    have fs := facts_of (X := cxOf (L2.CX l.prog w) l.prog w K mg base fl.N fl.d.qual fl.d.scope f cdv callerA [] s H fun _ _ _ => False) t (all_ok (P := l.prog) (base := base) t hT k) (by rw [hT]; rfl) fl.N rfl rfl rfl rfl rfl
    exact ⟨rfl, fun a h => h, fun _ => rfl, rfl, rfl, fl.sc.nd, rfl, takes_of rfl rfl rfl rfl, passes_of rfl, hr, ⟨fs.fn, fs.cls, fs.val, fs.exc, fs.blt, fs.ty, fs.m, fs.fld, fs.kit, fs.sup, fs.vex⟩⟩
theorem dfs_of {l : List FnI} {x : He.DefD} (i : Nat) (fi : FnI) (e : l[i]? = some fi) : (l.map (·.d) ++ [x])[i]? = some fi.d := by
  have h := (List.getElem?_eq_some_iff.mp e).1
  rw [List.getElem?_append_left (by simpa using h), List.getElem?_map, e]; rfl
theorem law_def {g : Pg} {fl : FnI} {fa : List He.Fa} {w : World} {K : PySem.W.Frag} {h : Heap} (c : He.SaysX fa (g.fns.map (·.d) ++ [fl.d]) g.ts [] g.ex w h K) : ∃ fd, FunD K fl.d.name fl.d.qual fl.d.params fl.d.body fl.d.scope [] [] (He.fAd K fl.d.at_) fd := by
  obtain ⟨fd, F⟩ := c.t.d.def_ g.fns.length (d := fl.d) (by simp)
  have e1 : fl.d.dvs K = [] := by simp only [He.DefD.dvs, fl.d0, List.map_nil]
  have e2 : fl.d.kws K = [] := by simp only [He.DefD.kws, fl.k0, List.map_nil]
  rw [e1, e2] at F
  exact ⟨fd, F⟩
end Dl

/-! DlS: what serves every plain law: runs as promises, walks by invariants, what a call leaves. -/
namespace Dl
/-! ### sums of places -/
@[simp] theorem addl_1_1 {n : Nat} : n + 1 + 1 = n + 2 := rfl
@[simp] theorem addl_1_2 {n : Nat} : n + 1 + 2 = n + 3 := rfl
@[simp] theorem addl_1_3 {n : Nat} : n + 1 + 3 = n + 4 := rfl
@[simp] theorem addl_2_1 {n : Nat} : n + 2 + 1 = n + 3 := rfl
@[simp] theorem addl_2_2 {n : Nat} : n + 2 + 2 = n + 4 := rfl
@[simp] theorem addl_2_3 {n : Nat} : n + 2 + 3 = n + 5 := rfl
@[simp] theorem addl_3_1 {n : Nat} : n + 3 + 1 = n + 4 := rfl
@[simp] theorem addl_3_2 {n : Nat} : n + 3 + 2 = n + 5 := rfl
@[simp] theorem addl_3_3 {n : Nat} : n + 3 + 3 = n + 6 := rfl
@[simp] theorem addl_4_1 {n : Nat} : n + 4 + 1 = n + 5 := rfl
@[simp] theorem addl_4_2 {n : Nat} : n + 4 + 2 = n + 6 := rfl
@[simp] theorem addl_4_3 {n : Nat} : n + 4 + 3 = n + 7 := rfl
@[simp] theorem addl_5_1 {n : Nat} : n + 5 + 1 = n + 6 := rfl
@[simp] theorem addl_5_2 {n : Nat} : n + 5 + 2 = n + 7 := rfl
@[simp] theorem addl_5_3 {n : Nat} : n + 5 + 3 = n + 8 := rfl
@[simp] theorem addl_6_1 {n : Nat} : n + 6 + 1 = n + 7 := rfl
@[simp] theorem addl_6_2 {n : Nat} : n + 6 + 2 = n + 8 := rfl
@[simp] theorem addl_6_3 {n : Nat} : n + 6 + 3 = n + 9 := rfl
@[simp] theorem addl_7_1 {n : Nat} : n + 7 + 1 = n + 8 := rfl
@[simp] theorem addl_7_2 {n : Nat} : n + 7 + 2 = n + 9 := rfl
@[simp] theorem addl_7_3 {n : Nat} : n + 7 + 3 = n + 10 := rfl
@[simp] theorem addl_8_1 {n : Nat} : n + 8 + 1 = n + 9 := rfl
@[simp] theorem addl_8_2 {n : Nat} : n + 8 + 2 = n + 10 := rfl
@[simp] theorem addl_8_3 {n : Nat} : n + 8 + 3 = n + 11 := rfl
@[simp] theorem addl_9_1 {n : Nat} : n + 9 + 1 = n + 10 := rfl
@[simp] theorem addl_9_2 {n : Nat} : n + 9 + 2 = n + 11 := rfl
@[simp] theorem addl_9_3 {n : Nat} : n + 9 + 3 = n + 12 := rfl
@[simp] theorem addl_10_1 {n : Nat} : n + 10 + 1 = n + 11 := rfl
@[simp] theorem addl_10_2 {n : Nat} : n + 10 + 2 = n + 12 := rfl
@[simp] theorem addl_10_3 {n : Nat} : n + 10 + 3 = n + 13 := rfl
@[simp] theorem addl_11_1 {n : Nat} : n + 11 + 1 = n + 12 := rfl
@[simp] theorem addl_11_2 {n : Nat} : n + 11 + 2 = n + 13 := rfl
@[simp] theorem addl_11_3 {n : Nat} : n + 11 + 3 = n + 14 := rfl
@[simp] theorem addl_12_1 {n : Nat} : n + 12 + 1 = n + 13 := rfl
@[simp] theorem addl_12_2 {n : Nat} : n + 12 + 2 = n + 14 := rfl
@[simp] theorem addl_12_3 {n : Nat} : n + 12 + 3 = n + 15 := rfl
@[simp] theorem addl_1_4 {n : Nat} : n + 1 + 4 = n + 5 := rfl
@[simp] theorem addl_1_5 {n : Nat} : n + 1 + 5 = n + 6 := rfl
@[simp] theorem addl_1_6 {n : Nat} : n + 1 + 6 = n + 7 := rfl
@[simp] theorem addl_1_7 {n : Nat} : n + 1 + 7 = n + 8 := rfl
@[simp] theorem addl_1_8 {n : Nat} : n + 1 + 8 = n + 9 := rfl
@[simp] theorem addl_1_9 {n : Nat} : n + 1 + 9 = n + 10 := rfl
@[simp] theorem addl_1_10 {n : Nat} : n + 1 + 10 = n + 11 := rfl
@[simp] theorem addl_1_11 {n : Nat} : n + 1 + 11 = n + 12 := rfl
@[simp] theorem addl_1_12 {n : Nat} : n + 1 + 12 = n + 13 := rfl
@[simp] theorem addl_2_4 {n : Nat} : n + 2 + 4 = n + 6 := rfl
@[simp] theorem addl_2_5 {n : Nat} : n + 2 + 5 = n + 7 := rfl
@[simp] theorem addl_2_6 {n : Nat} : n + 2 + 6 = n + 8 := rfl
@[simp] theorem addl_2_7 {n : Nat} : n + 2 + 7 = n + 9 := rfl
@[simp] theorem addl_2_8 {n : Nat} : n + 2 + 8 = n + 10 := rfl
@[simp] theorem addl_2_9 {n : Nat} : n + 2 + 9 = n + 11 := rfl
@[simp] theorem addl_2_10 {n : Nat} : n + 2 + 10 = n + 12 := rfl
@[simp] theorem addl_2_11 {n : Nat} : n + 2 + 11 = n + 13 := rfl
@[simp] theorem addl_2_12 {n : Nat} : n + 2 + 12 = n + 14 := rfl
@[simp] theorem addl_3_4 {n : Nat} : n + 3 + 4 = n + 7 := rfl
@[simp] theorem addl_3_5 {n : Nat} : n + 3 + 5 = n + 8 := rfl
@[simp] theorem addl_3_6 {n : Nat} : n + 3 + 6 = n + 9 := rfl
@[simp] theorem addl_3_7 {n : Nat} : n + 3 + 7 = n + 10 := rfl
@[simp] theorem addl_3_8 {n : Nat} : n + 3 + 8 = n + 11 := rfl
@[simp] theorem addl_3_9 {n : Nat} : n + 3 + 9 = n + 12 := rfl
@[simp] theorem addl_3_10 {n : Nat} : n + 3 + 10 = n + 13 := rfl
@[simp] theorem addl_3_11 {n : Nat} : n + 3 + 11 = n + 14 := rfl
@[simp] theorem addl_3_12 {n : Nat} : n + 3 + 12 = n + 15 := rfl
@[simp] theorem addl_4_4 {n : Nat} : n + 4 + 4 = n + 8 := rfl
@[simp] theorem addl_4_5 {n : Nat} : n + 4 + 5 = n + 9 := rfl
@[simp] theorem addl_4_6 {n : Nat} : n + 4 + 6 = n + 10 := rfl
@[simp] theorem addl_4_7 {n : Nat} : n + 4 + 7 = n + 11 := rfl
@[simp] theorem addl_4_8 {n : Nat} : n + 4 + 8 = n + 12 := rfl
@[simp] theorem addl_4_9 {n : Nat} : n + 4 + 9 = n + 13 := rfl
@[simp] theorem addl_4_10 {n : Nat} : n + 4 + 10 = n + 14 := rfl
@[simp] theorem addl_4_11 {n : Nat} : n + 4 + 11 = n + 15 := rfl
@[simp] theorem addl_4_12 {n : Nat} : n + 4 + 12 = n + 16 := rfl
@[simp] theorem addl_5_4 {n : Nat} : n + 5 + 4 = n + 9 := rfl
@[simp] theorem addl_5_5 {n : Nat} : n + 5 + 5 = n + 10 := rfl
@[simp] theorem addl_5_6 {n : Nat} : n + 5 + 6 = n + 11 := rfl
@[simp] theorem addl_5_7 {n : Nat} : n + 5 + 7 = n + 12 := rfl
@[simp] theorem addl_5_8 {n : Nat} : n + 5 + 8 = n + 13 := rfl
@[simp] theorem addl_5_9 {n : Nat} : n + 5 + 9 = n + 14 := rfl
@[simp] theorem addl_5_10 {n : Nat} : n + 5 + 10 = n + 15 := rfl
@[simp] theorem addl_5_11 {n : Nat} : n + 5 + 11 = n + 16 := rfl
@[simp] theorem addl_5_12 {n : Nat} : n + 5 + 12 = n + 17 := rfl
@[simp] theorem addl_6_4 {n : Nat} : n + 6 + 4 = n + 10 := rfl
@[simp] theorem addl_6_5 {n : Nat} : n + 6 + 5 = n + 11 := rfl
@[simp] theorem addl_6_6 {n : Nat} : n + 6 + 6 = n + 12 := rfl
@[simp] theorem addl_6_7 {n : Nat} : n + 6 + 7 = n + 13 := rfl
@[simp] theorem addl_6_8 {n : Nat} : n + 6 + 8 = n + 14 := rfl
@[simp] theorem addl_6_9 {n : Nat} : n + 6 + 9 = n + 15 := rfl
@[simp] theorem addl_6_10 {n : Nat} : n + 6 + 10 = n + 16 := rfl
@[simp] theorem addl_6_11 {n : Nat} : n + 6 + 11 = n + 17 := rfl
@[simp] theorem addl_6_12 {n : Nat} : n + 6 + 12 = n + 18 := rfl
@[simp] theorem addl_7_4 {n : Nat} : n + 7 + 4 = n + 11 := rfl
@[simp] theorem addl_7_5 {n : Nat} : n + 7 + 5 = n + 12 := rfl
@[simp] theorem addl_7_6 {n : Nat} : n + 7 + 6 = n + 13 := rfl
@[simp] theorem addl_7_7 {n : Nat} : n + 7 + 7 = n + 14 := rfl
@[simp] theorem addl_7_8 {n : Nat} : n + 7 + 8 = n + 15 := rfl
@[simp] theorem addl_7_9 {n : Nat} : n + 7 + 9 = n + 16 := rfl
@[simp] theorem addl_7_10 {n : Nat} : n + 7 + 10 = n + 17 := rfl
@[simp] theorem addl_7_11 {n : Nat} : n + 7 + 11 = n + 18 := rfl
@[simp] theorem addl_7_12 {n : Nat} : n + 7 + 12 = n + 19 := rfl
@[simp] theorem addl_8_4 {n : Nat} : n + 8 + 4 = n + 12 := rfl
@[simp] theorem addl_8_5 {n : Nat} : n + 8 + 5 = n + 13 := rfl
@[simp] theorem addl_8_6 {n : Nat} : n + 8 + 6 = n + 14 := rfl
@[simp] theorem addl_8_7 {n : Nat} : n + 8 + 7 = n + 15 := rfl
@[simp] theorem addl_8_8 {n : Nat} : n + 8 + 8 = n + 16 := rfl
@[simp] theorem addl_8_9 {n : Nat} : n + 8 + 9 = n + 17 := rfl
@[simp] theorem addl_8_10 {n : Nat} : n + 8 + 10 = n + 18 := rfl
@[simp] theorem addl_8_11 {n : Nat} : n + 8 + 11 = n + 19 := rfl
@[simp] theorem addl_8_12 {n : Nat} : n + 8 + 12 = n + 20 := rfl
@[simp] theorem addl_9_4 {n : Nat} : n + 9 + 4 = n + 13 := rfl
@[simp] theorem addl_9_5 {n : Nat} : n + 9 + 5 = n + 14 := rfl
@[simp] theorem addl_9_6 {n : Nat} : n + 9 + 6 = n + 15 := rfl
@[simp] theorem addl_9_7 {n : Nat} : n + 9 + 7 = n + 16 := rfl
@[simp] theorem addl_9_8 {n : Nat} : n + 9 + 8 = n + 17 := rfl
@[simp] theorem addl_9_9 {n : Nat} : n + 9 + 9 = n + 18 := rfl
@[simp] theorem addl_9_10 {n : Nat} : n + 9 + 10 = n + 19 := rfl
@[simp] theorem addl_9_11 {n : Nat} : n + 9 + 11 = n + 20 := rfl
@[simp] theorem addl_9_12 {n : Nat} : n + 9 + 12 = n + 21 := rfl
@[simp] theorem addl_10_4 {n : Nat} : n + 10 + 4 = n + 14 := rfl
@[simp] theorem addl_10_5 {n : Nat} : n + 10 + 5 = n + 15 := rfl
@[simp] theorem addl_10_6 {n : Nat} : n + 10 + 6 = n + 16 := rfl
@[simp] theorem addl_10_7 {n : Nat} : n + 10 + 7 = n + 17 := rfl
@[simp] theorem addl_10_8 {n : Nat} : n + 10 + 8 = n + 18 := rfl
@[simp] theorem addl_10_9 {n : Nat} : n + 10 + 9 = n + 19 := rfl
@[simp] theorem addl_10_10 {n : Nat} : n + 10 + 10 = n + 20 := rfl
@[simp] theorem addl_10_11 {n : Nat} : n + 10 + 11 = n + 21 := rfl
@[simp] theorem addl_10_12 {n : Nat} : n + 10 + 12 = n + 22 := rfl
@[simp] theorem addl_11_4 {n : Nat} : n + 11 + 4 = n + 15 := rfl
@[simp] theorem addl_11_5 {n : Nat} : n + 11 + 5 = n + 16 := rfl
@[simp] theorem addl_11_6 {n : Nat} : n + 11 + 6 = n + 17 := rfl
@[simp] theorem addl_11_7 {n : Nat} : n + 11 + 7 = n + 18 := rfl
@[simp] theorem addl_11_8 {n : Nat} : n + 11 + 8 = n + 19 := rfl
@[simp] theorem addl_11_9 {n : Nat} : n + 11 + 9 = n + 20 := rfl
@[simp] theorem addl_11_10 {n : Nat} : n + 11 + 10 = n + 21 := rfl
@[simp] theorem addl_11_11 {n : Nat} : n + 11 + 11 = n + 22 := rfl
@[simp] theorem addl_11_12 {n : Nat} : n + 11 + 12 = n + 23 := rfl
@[simp] theorem addl_12_4 {n : Nat} : n + 12 + 4 = n + 16 := rfl
@[simp] theorem addl_12_5 {n : Nat} : n + 12 + 5 = n + 17 := rfl
@[simp] theorem addl_12_6 {n : Nat} : n + 12 + 6 = n + 18 := rfl
@[simp] theorem addl_12_7 {n : Nat} : n + 12 + 7 = n + 19 := rfl
@[simp] theorem addl_12_8 {n : Nat} : n + 12 + 8 = n + 20 := rfl
@[simp] theorem addl_12_9 {n : Nat} : n + 12 + 9 = n + 21 := rfl
@[simp] theorem addl_12_10 {n : Nat} : n + 12 + 10 = n + 22 := rfl
@[simp] theorem addl_12_11 {n : Nat} : n + 12 + 11 = n + 23 := rfl
@[simp] theorem addl_12_12 {n : Nat} : n + 12 + 12 = n + 24 := rfl
/-! ### promises -/
/-- it ends well with Q, or raises with X -/
def R.To {α : Type} (r : R α) (Q : α → G → Prop) (X : Nat → G → Prop) : Prop := match r with
  | .ok a g => Q a g
  | .exc c g => X c g
  | .err => False
def RS.To (r : RS) (Q : Fl → Env → G → Prop) (X : Nat → Env → G → Prop) : Prop := match r with
  | .go f ρ g => Q f ρ g
  | .exc c ρ g => X c ρ g
  | .err => False
/-- behind a statement -/
def nxt (K : Env → G → Prop) (Q : Fl → Env → G → Prop) : Fl → Env → G → Prop
  | .nx, ρ, g => K ρ g
  | f, ρ, g => Q f ρ g
abbrev noX {α : Type} : Nat → α → Prop := fun _ _ => False
abbrev noX3 : Nat → Env → G → Prop := fun _ _ _ => False
section
variable {α β : Type} {Q : α → G → Prop} {X : Nat → G → Prop} {g : G} {K : Env → G → Prop} {QS : Fl → Env → G → Prop} {XS : Nat → Env → G → Prop} {ρ : Env}
@[simp] theorem ok_bind {a : β} {f : β → G → R α} : (R.ok a g).bind f = f a g := rfl
@[simp] theorem exc_bind {c : Nat} {f : β → G → R α} : (R.exc c g : R β).bind f = .exc c g := rfl
@[simp] theorem ok_RSof {a : α} {k : α → G → RS} : RS.of (R.ok a g) ρ k = k a g := rfl
@[simp] theorem of_none : (R.of none g : R α) = .err := rfl
@[simp] theorem of_some {a : α} : R.of (some a) g = .ok a g := rfl
@[simp] theorem To_ok {a : α} : (R.ok a g).To Q X = Q a g := rfl
@[simp] theorem To_exc {c : Nat} : (R.exc c g : R α).To Q X = X c g := rfl
@[simp] theorem To_err : (R.err : R α).To Q X = False := rfl
@[simp] theorem To_bind {r : R β} {f : β → G → R α} : (r.bind f).To Q X = r.To (fun a g => (f a g).To Q X) X := by cases r <;> rfl
@[simp] theorem To_of {o : Option α} {a : α} : (R.of (some a) g).To Q X = Q a g := rfl
@[simp] theorem To_nx {r : R α} : r.nx.To Q X = r.To Q (fun _ _ => False) := by cases r <;> rfl
@[simp] theorem To_RSof {r : R α} {k : α → G → RS} : (RS.of r ρ k).To QS XS = r.To (fun a g => (k a g).To QS XS) (fun c g => XS c ρ g) := by cases r <;> rfl
@[simp] theorem To_go {f : Fl} : (RS.go f ρ g).To QS XS = QS f ρ g := rfl
@[simp] theorem To_goX {c : Nat} : (RS.exc c ρ g).To QS XS = XS c ρ g := rfl
@[simp] theorem To_errS : (RS.err).To QS XS = False := rfl
@[simp] theorem nxt_nx : nxt K QS .nx ρ g = K ρ g := rfl
@[simp] theorem nxt_brk : nxt K QS .brk ρ g = QS .brk ρ g := rfl
@[simp] theorem nxt_cnt : nxt K QS .cnt ρ g = QS .cnt ρ g := rfl
@[simp] theorem nxt_ret {w : W} : nxt K QS (.ret w) ρ g = QS (.ret w) ρ g := rfl
theorem To_andThen {r : RS} {k : Env → G → RS} : (r.andThen k).To QS XS = r.To (nxt (fun ρ g => (k ρ g).To QS XS) QS) XS := by
  cases r with
  | go f ρ g => cases f <;> rfl
  | exc c ρ g => rfl
  | err => rfl
theorem R.To.imp {r : R α} {Q' : α → G → Prop} {X' : Nat → G → Prop} (h : r.To Q X) (hQ : ∀ a g, Q a g → Q' a g) (hX : ∀ c g, X c g → X' c g) : r.To Q' X' := by
  cases r with
  | ok a g => exact hQ a g h
  | exc c g => exact hX c g h
  | err => exact h
theorem RS.To.imp {r : RS} {Q' : Fl → Env → G → Prop} {X' : Nat → Env → G → Prop} (h : r.To QS XS) (hQ : ∀ a ρ g, QS a ρ g → Q' a ρ g) (hX : ∀ c ρ g, XS c ρ g → X' c ρ g) : r.To Q' X' := by
  cases r with
  | go a ρ g => exact hQ a ρ g h
  | exc c ρ g => exact hX c ρ g h
  | err => exact h
theorem R.To.ok {r : R α} (h : r.To Q noX) : ∃ a g, r = .ok a g ∧ Q a g := by
  cases r with
  | ok a g => exact ⟨a, g, rfl, h⟩
  | exc c g => exact h.elim
  | err => exact h.elim
theorem R.To.of {r : R α} {a : α} (h : r = .ok a g) (q : Q a g) : r.To Q X := by rw [h]; exact q
end
section
variable {T : Tbl} {call : CallF} {ρ : Env} {g : G} {QS : Fl → Env → G → Prop} {XS : Nat → Env → G → Prop}
@[simp] theorem seq_To {s : S} {r : SL} : (exs T call (.cons s r) ρ g).To QS XS = (ex T call s ρ g).To (nxt (fun ρ g => (exs T call r ρ g).To QS XS) QS) XS := by
  simp only [exs, To_andThen]
@[simp] theorem nil_To : (exs T call .nil ρ g).To QS XS = QS .nx ρ g := by simp only [exs, To_go]
/-- what a body's end is for its call -/
def fin (g : G) (Q : W → G → Prop) : Fl → Env → G → Prop
  | .nx, _, g' => Q .non (gc g .non g')
  | .ret w, _, g' => Q w (gc g w g')
  | _, _, _ => False
@[simp] theorem fin_nx {Q : W → G → Prop} {g' : G} : fin g Q .nx ρ g' = Q .non (gc g .non g') := rfl
@[simp] theorem fin_ret {Q : W → G → Prop} {g' : G} {w : W} : fin g Q (.ret w) ρ g' = Q w (gc g w g') := rfl
theorem call_To {k f : Nat} {fn : Fn} {ws : List W} {Q : W → G → Prop} {X : Nat → G → Prop} (h : T.fns[f]? = some fn) (hl : ws.length = fn.np)
    (H : (exs T (callN T k) fn.body (startE fn.nn ws) g).To (fin g Q) (fun c _ g' => X c (gc g .non g'))) : (callN T (k + 1) f ws g).To Q X := by
  show R.To (match T.fns[f]? with | some fn => fn.run T (callN T k) ws g | none => .err) Q X
  rw [h]
  simp only [Fn.run]
  rw [if_pos hl]
  cases hx : exs T (callN T k) fn.body (startE fn.nn ws) g with
  | err => rw [hx] at H; exact H
  | exc c ρ g' => rw [hx] at H; exact H
  | go fl ρ g' => rw [hx] at H; cases fl <;> exact H
end
theorem frun_To {T : Tbl} {call : CallF} {f : Fn} {ws : List W} {g : G} {Q : W → G → Prop} {X : Nat → G → Prop} (hl : ws.length = f.np)
    (H : (exs T call f.body (startE f.nn ws) g).To (fin g Q) (fun c _ g' => X c (gc g .non g'))) : (f.run T call ws g).To Q X := by
  simp only [Fn.run]
  rw [if_pos hl]
  cases hx : exs T call f.body (startE f.nn ws) g with
  | err => rw [hx] at H; exact H
  | exc c ρ g' => rw [hx] at H; exact H
  | go fl ρ g' => rw [hx] at H; cases fl <;> exact H
/-! ### walks -/
section
variable {t : Tg} {b : Env → G → RS} {Q : Fl → Env → G → Prop} {X : Nat → Env → G → Prop}
/-- over values, by an invariant of what is left -/
theorem forV_To {P : List W → Env → G → Prop} : ∀ {ws : List W} {ρ : Env} {g : G}, P ws ρ g →
    (∀ w r ρ g, P (w :: r) ρ g → ∃ ρ1, t.put w ρ = some ρ1 ∧ (b ρ1 g).To (fun f ρ2 g2 => match f with
      | .nx => P r ρ2 g2
      | .cnt => P r ρ2 g2
      | .brk => Q .nx ρ2 g2
      | .ret v => Q (.ret v) ρ2 g2) X) → (∀ ρ g, P [] ρ g → Q .nx ρ g) → (forV t b ws ρ g).To Q X
  | [], ρ, g, p, _, h2 => h2 ρ g p
  | w :: r, ρ, g, p, h1, h2 => by
    obtain ⟨ρ1, e, h⟩ := h1 w r ρ g p
    simp only [forV, e]
    cases hb : b ρ1 g with
    | err => rw [hb] at h; exact h.elim
    | exc c ρ2 g2 => rw [hb] at h; exact h
    | go f ρ2 g2 =>
      rw [hb] at h
      cases f with
      | nx => exact forV_To h h1 h2
      | cnt => exact forV_To h h1 h2
      | brk => exact h
      | ret v => exact h
/-- over values, by an invariant of the turn -/
theorem forI_To {ws : List W} {P : Nat → Env → G → Prop} {ρ : Env} {g : G} (p0 : P 0 ρ g)
    (h1 : ∀ j ρ g, (hj : j < ws.length) → P j ρ g → ∃ ρ1, t.put ws[j] ρ = some ρ1 ∧ (b ρ1 g).To (fun f ρ2 g2 => match f with
      | .nx => P (j + 1) ρ2 g2
      | .cnt => P (j + 1) ρ2 g2
      | .brk => Q .nx ρ2 g2
      | .ret v => Q (.ret v) ρ2 g2) X) (h2 : ∀ ρ g, P ws.length ρ g → Q .nx ρ g) : (forV t b ws ρ g).To Q X := by
  refine forV_To (P := fun rest ρ g => ∃ j, j ≤ ws.length ∧ rest = ws.drop j ∧ P j ρ g) ⟨0, Nat.zero_le _, rfl, p0⟩ ?_ ?_
  · rintro w r ρ g ⟨j, hj, e, p⟩
    have hlt : j < ws.length := by
      rcases Nat.lt_or_ge j ws.length with h | h
      · exact h
      · rw [List.drop_eq_nil_of_le h] at e; cases e
    rw [List.drop_eq_getElem_cons hlt] at e
    obtain ⟨rfl, rfl⟩ := List.cons.inj e
    obtain ⟨ρ1, e1, h⟩ := h1 j ρ g hlt p
    refine ⟨ρ1, e1, h.imp (fun f ρ2 g2 q => ?_) (fun _ _ _ h => h)⟩
    cases f with
    | nx => exact ⟨j + 1, hlt, rfl, q⟩
    | cnt => exact ⟨j + 1, hlt, rfl, q⟩
    | brk => exact q
    | ret v => exact q
  · rintro ρ g ⟨j, hj, e, p⟩
    have : j = ws.length := by have := List.drop_eq_nil_iff.mp e.symm; omega
    subst this
    exact h2 ρ g p
theorem forR_To {f : Nat → W} {n : Nat} {P : Nat → Env → G → Prop} {ρ : Env} {g : G} (p0 : P 0 ρ g)
    (h1 : ∀ j ρ g, j < n → P j ρ g → ∃ ρ1, t.put (f j) ρ = some ρ1 ∧ (b ρ1 g).To (fun f ρ2 g2 => match f with
      | .nx => P (j + 1) ρ2 g2
      | .cnt => P (j + 1) ρ2 g2
      | .brk => Q .nx ρ2 g2
      | .ret v => Q (.ret v) ρ2 g2) X) (h2 : ∀ ρ g, P n ρ g → Q .nx ρ g) : (forV t b ((List.range n).map f) ρ g).To Q X := by
  refine forI_To (P := P) p0 (fun j ρ g hj p => ?_) (fun ρ g p => h2 ρ g (by simpa using p))
  have := h1 j ρ g (by simpa using hj) p
  simpa using this
/-- over a list that may change, by an invariant of the turn -/
theorem forL_To {cur : Cur} {P : Nat → Env → G → Prop} {m : Nat} : ∀ {n j : Nat} {ρ : Env} {g : G}, P j ρ g → m + 1 ≤ n + j →
    (∀ j ρ g, P j ρ g → (cur.at_ j g = some none ∧ Q .nx ρ g) ∨ (j < m ∧ ∃ w ρ1, cur.at_ j g = some (some w) ∧ t.put w ρ = some ρ1 ∧ (b ρ1 g).To (fun f ρ2 g2 => match f with
      | .nx => P (j + 1) ρ2 g2
      | .cnt => P (j + 1) ρ2 g2
      | .brk => Q .nx ρ2 g2
      | .ret v => Q (.ret v) ρ2 g2) X)) → j ≤ m → (forL t b cur n j ρ g).To Q X
  | 0, j, ρ, g, p, hn, h1, hj => by omega
  | n + 1, j, ρ, g, p, hn, h1, hj => by
    simp only [forL]
    rcases h1 j ρ g p with ⟨e, q⟩ | ⟨hlt, w, ρ1, e, e2, h⟩
    · simp only [e]; exact q
    · simp only [e, e2]
      cases hb : b ρ1 g with
      | err => rw [hb] at h; exact h.elim
      | exc c ρ2 g2 => rw [hb] at h; exact h
      | go f ρ2 g2 =>
        rw [hb] at h
        cases f with
        | nx => exact forL_To h (by omega) h1 (by omega)
        | cnt => exact forL_To h (by omega) h1 (by omega)
        | brk => exact h
        | ret v => exact h
/-- over a list that stays -/
theorem forL_ws {i : Nat} {ws : List W} {P : List W → Env → G → Prop} {ρ : Env} {g : G} (hl : ws.length < FUEL) (p : P ws ρ g) (hat : ∀ r ρ g, P r ρ g → g[i]? = some (.lst ws))
    (h1 : ∀ w r ρ g, P (w :: r) ρ g → ∃ ρ1, t.put w ρ = some ρ1 ∧ (b ρ1 g).To (fun f ρ2 g2 => match f with
      | .nx => P r ρ2 g2
      | .cnt => P r ρ2 g2
      | .brk => Q .nx ρ2 g2
      | .ret v => Q (.ret v) ρ2 g2) X) (h2 : ∀ ρ g, P [] ρ g → Q .nx ρ g) : (forL t b (.live i) FUEL 0 ρ g).To Q X := by
  refine forL_To (m := ws.length) (P := fun j ρ g => P (ws.drop j) ρ g) (by simpa using p) (by omega) (fun j ρ g q => ?_) (Nat.zero_le _)
  have ha := hat _ _ _ q
  by_cases hj : j < ws.length
  · refine .inr ⟨hj, ws[j], ?_⟩
    rw [List.drop_eq_getElem_cons hj] at q
    obtain ⟨ρ1, e, h⟩ := h1 _ _ _ _ q
    refine ⟨ρ1, by simp [Cur.at_, lstOf, ha, hj], e, h⟩
  · refine .inl ⟨by simp [Cur.at_, lstOf, ha]; omega, ?_⟩
    rw [List.drop_eq_nil_of_le (by omega)] at q
    exact h2 _ _ q
theorem forJ_To {i : Nat} {ws : List W} {P : Nat → Env → G → Prop} {ρ : Env} {g : G} (hl : ws.length < FUEL) (p : P 0 ρ g) (hat : ∀ j ρ g, P j ρ g → g[i]? = some (.lst ws))
    (h1 : ∀ j ρ g, (hj : j < ws.length) → P j ρ g → ∃ ρ1, t.put ws[j] ρ = some ρ1 ∧ (b ρ1 g).To (fun f ρ2 g2 => match f with
      | .nx => P (j + 1) ρ2 g2
      | .cnt => P (j + 1) ρ2 g2
      | .brk => Q .nx ρ2 g2
      | .ret v => Q (.ret v) ρ2 g2) X) (h2 : ∀ ρ g, P ws.length ρ g → Q .nx ρ g) : (forL t b (.live i) FUEL 0 ρ g).To Q X := by
  refine forL_To (m := ws.length) (P := fun j ρ g => j ≤ ws.length ∧ P j ρ g) ⟨Nat.zero_le _, p⟩ (by omega) (fun j ρ g q => ?_) (Nat.zero_le _)
  have ha := hat _ _ _ q.2
  by_cases hj : j < ws.length
  · refine .inr ⟨hj, ws[j], ?_⟩
    obtain ⟨ρ1, e, h⟩ := h1 j ρ g hj q.2
    refine ⟨ρ1, by simp [Cur.at_, lstOf, ha, hj], e, h.imp (fun f ρ2 g2 q => ?_) (fun _ _ _ h => h)⟩
    cases f with
    | nx => exact ⟨hj, q⟩
    | cnt => exact ⟨hj, q⟩
    | brk => exact q
    | ret v => exact q
  · refine .inl ⟨by simp [Cur.at_, lstOf, ha]; omega, ?_⟩
    have : j = ws.length := by omega
    subst this
    exact h2 _ _ q.2
/-- .. with its places -/
theorem forE_To {i : Nat} {ws : List W} {P : Nat → Env → G → Prop} {ρ : Env} {g : G} (hl : ws.length < FUEL) (p : P 0 ρ g) (hat : ∀ j ρ g, P j ρ g → g[i]? = some (.lst ws))
    (h1 : ∀ j ρ g, (hj : j < ws.length) → P j ρ g → ∃ ρ1, t.put (.tup [.int j, ws[j]]) ρ = some ρ1 ∧ (b ρ1 g).To (fun f ρ2 g2 => match f with
      | .nx => P (j + 1) ρ2 g2
      | .cnt => P (j + 1) ρ2 g2
      | .brk => Q .nx ρ2 g2
      | .ret v => Q (.ret v) ρ2 g2) X) (h2 : ∀ ρ g, P ws.length ρ g → Q .nx ρ g) : (forL t b (.lenum i) FUEL 0 ρ g).To Q X := by
  refine forL_To (m := ws.length) (P := fun j ρ g => j ≤ ws.length ∧ P j ρ g) ⟨Nat.zero_le _, p⟩ (by omega) (fun j ρ g q => ?_) (Nat.zero_le _)
  have ha := hat _ _ _ q.2
  by_cases hj : j < ws.length
  · refine .inr ⟨hj, .tup [.int j, ws[j]], ?_⟩
    obtain ⟨ρ1, e, h⟩ := h1 j ρ g hj q.2
    refine ⟨ρ1, by simp [Cur.at_, lstOf, ha, hj], e, h.imp (fun f ρ2 g2 q => ?_) (fun _ _ _ h => h)⟩
    cases f with
    | nx => exact ⟨hj, q⟩
    | cnt => exact ⟨hj, q⟩
    | brk => exact q
    | ret v => exact q
  · refine .inl ⟨by simp [Cur.at_, lstOf, ha]; omega, ?_⟩
    have : j = ws.length := by omega
    subst this
    exact h2 _ _ q.2
/-- a while by a measure -/
theorem whl_To {c : Env → G → R Bool} {P : Nat → Env → G → Prop} : ∀ {n m : Nat} {ρ : Env} {g : G}, P m ρ g → m < n →
    (∀ m ρ g, P m ρ g → (c ρ g).To (fun k g1 => match k with
      | false => Q .nx ρ g1
      | true => (b ρ g1).To (fun f ρ2 g2 => match f with
        | .nx => ∃ m', m' < m ∧ P m' ρ2 g2
        | .cnt => ∃ m', m' < m ∧ P m' ρ2 g2
        | .brk => Q .nx ρ2 g2
        | .ret v => Q (.ret v) ρ2 g2) X) (fun c g => X c ρ g)) → (whl c b n ρ g).To Q X
  | 0, m, ρ, g, p, hn, _ => by omega
  | n + 1, m, ρ, g, p, hn, h1 => by
    have h := h1 m ρ g p
    simp only [whl, To_RSof]
    cases hc : c ρ g with
    | err => rw [hc] at h; exact h
    | exc c g1 => rw [hc] at h; exact h
    | ok k g1 =>
      rw [hc] at h
      cases k with
      | false => exact h
      | true =>
        simp only [To_ok] at h ⊢
        cases hb : b ρ g1 with
        | err => rw [hb] at h; exact h.elim
        | exc c ρ2 g2 => rw [hb] at h; exact h
        | go f ρ2 g2 =>
          rw [hb] at h
          cases f with
          | nx => obtain ⟨m', l, p'⟩ := h; exact whl_To p' (by omega) h1
          | cnt => obtain ⟨m', l, p'⟩ := h; exact whl_To p' (by omega) h1
          | brk => exact h
          | ret v => exact h
end
/-! ### comprehensions -/
section
variable {t : Tg} {c : Env → G → R Bool} {el : Env → G → R W} {ρ : Env} {Q : List W → G → Prop} {X : Nat → G → Prop}
/-- over values, by an invariant of what is left and what is made -/
theorem compV_To {P : List W → List W → G → Prop} : ∀ {ws acc : List W} {g : G}, P ws acc g →
    (∀ w r acc g, P (w :: r) acc g → ∃ ρ1, t.put w ρ = some ρ1 ∧ (c ρ1 g).To (fun k g1 => match k with
      | false => P r acc g1
      | true => (el ρ1 g1).To (fun x g2 => P r (acc ++ [x]) g2) noX) noX) → (∀ acc g, P [] acc g → ∀ xs, acc = xs → Q xs g) →
    (compV t c el ρ ws g).To (fun xs g' => Q (acc ++ xs) g') X
  | [], acc, g, p, _, h2 => by simp only [compV, To_ok, List.append_nil]; exact h2 acc g p _ rfl
  | w :: r, acc, g, p, h1, h2 => by
    obtain ⟨ρ1, e, h⟩ := h1 w r acc g p
    simp only [compV, e, To_bind, To_nx]
    cases hc : c ρ1 g with
    | err => rw [hc] at h; exact h
    | exc c g1 => rw [hc] at h; exact h
    | ok k g1 =>
      rw [hc] at h
      cases k with
      | false => exact compV_To h h1 h2
      | true =>
        simp only [To_ok, To_bind, To_nx] at h ⊢
        cases he : el ρ1 g1 with
        | err => rw [he] at h; exact h
        | exc c g1 => rw [he] at h; exact h
        | ok x g2 =>
          rw [he] at h
          simp only [To_ok]
          have := compV_To h h1 h2
          simpa only [List.append_assoc, List.cons_append, List.nil_append] using this
/-- pure: what each item gives -/
theorem compV_map {f : W → W} {ws : List W} {g : G} (h : ∀ w ∈ ws, ∃ ρ1, t.put w ρ = some ρ1 ∧ c ρ1 g = .ok true g ∧ el ρ1 g = .ok (f w) g) : compV t c el ρ ws g = .ok (ws.map f) g := by
  induction ws with
  | nil => rfl
  | cons w r ih =>
    obtain ⟨ρ1, e, e1, e2⟩ := h w List.mem_cons_self
    simp only [compV, e, e1, e2, R.nx, R.bind, ih fun w hw => h w (List.mem_cons_of_mem _ hw), List.map_cons]
theorem compV_filter {f : W → W} {q : W → Bool} {ws : List W} {g : G} (h : ∀ w ∈ ws, ∃ ρ1, t.put w ρ = some ρ1 ∧ c ρ1 g = .ok (q w) g ∧ (q w = true → el ρ1 g = .ok (f w) g)) : compV t c el ρ ws g = .ok ((ws.filter q).map f) g := by
  induction ws with
  | nil => rfl
  | cons w r ih =>
    obtain ⟨ρ1, e, e1, e2⟩ := h w List.mem_cons_self
    have i := ih fun w hw => h w (List.mem_cons_of_mem _ hw)
    cases hq : q w with
    | true => simp only [compV, e, e1, e2 hq, hq, R.nx, R.bind, i, List.filter_cons_of_pos hq, List.map_cons]
    | false => simp only [compV, e, e1, hq, R.nx, R.bind, i, List.filter_cons_of_neg (by rw [hq]; decide : ¬ q w = true)]
/-- .. over a list in the heap that stays -/
theorem compL_eq {i : Nat} {ws : List W} (P : G → Prop) (hat : ∀ g, P g → g[i]? = some (.lst ws))
    (hc : ∀ w ∈ ws, ∀ g ρ1, P g → t.put w ρ = some ρ1 → ∀ k g1, c ρ1 g = .ok k g1 → P g1) (he : ∀ w ∈ ws, ∀ g ρ1, P g → t.put w ρ = some ρ1 → ∀ k g1, el ρ1 g = .ok k g1 → P g1) :
    ∀ {n j : Nat} {g : G}, ws.length - j < n → P g → compL t c el ρ (.live i) n j g = compV t c el ρ (ws.drop j) g
  | 0, j, g, hn, _ => by omega
  | n + 1, j, g, hn, p => by
    have ha : Cur.at_ (.live i) j g = some ws[j]? := by simp [Cur.at_, lstOf, hat g p]
    simp only [compL, ha]
    by_cases hj : j < ws.length
    · have e0 : ws[j]? = some ws[j] := by simp [hj]
      rw [e0, List.drop_eq_getElem_cons hj]
      simp only [compV]
      have hm : ws[j] ∈ ws := List.getElem_mem hj
      cases e1 : t.put ws[j] ρ with
      | none => rfl
      | some ρ1 =>
        simp only
        cases e2 : c ρ1 g with
        | err => rfl
        | exc _ _ => rfl
        | ok k g1 =>
          have p1 := hc _ hm g ρ1 p e1 k g1 e2
          cases k with
          | false => simp only [R.nx, R.bind]; exact compL_eq P hat hc he (by omega) p1
          | true =>
            simp only [R.nx, R.bind]
            cases e3 : el ρ1 g1 with
            | err => rfl
            | exc _ _ => rfl
            | ok x g2 =>
              have p2 := he _ hm g1 ρ1 p1 e1 x g2 e3
              simp only
              rw [compL_eq P hat hc he (n := n) (by omega) p2]
    · have e0 : ws[j]? = none := by simp; omega
      rw [e0, List.drop_eq_nil_of_le (by omega)]
      rfl
/-- pure, over a list in the heap -/
theorem compL_map {f : W → W} {i : Nat} {ws : List W} {g : G} (hl : ws.length < FUEL) (hat : g[i]? = some (.lst ws)) (h : ∀ w ∈ ws, ∃ ρ1, t.put w ρ = some ρ1 ∧ c ρ1 g = .ok true g ∧ el ρ1 g = .ok (f w) g) : compL t c el ρ (.live i) FUEL 0 g = .ok (ws.map f) g := by
  rw [compL_eq (P := fun g' => g' = g) (fun g' e => by rw [e]; exact hat) ?_ ?_ (by omega) rfl]
  · exact compV_map h
  · rintro w hw g' ρ1 rfl e k g1 e1
    obtain ⟨ρ2, a, b, d⟩ := h w hw
    rw [e] at a
    cases a
    rw [b] at e1
    cases e1; rfl
  · rintro w hw g' ρ1 rfl e k g1 e1
    obtain ⟨ρ2, a, b, d⟩ := h w hw
    rw [e] at a
    cases a
    rw [d] at e1
    cases e1; rfl
end
/-! ### what a call leaves -/
theorem kvseq_refl : ∀ a : List (W × W), kvseq a a = true
  | [] => rfl
  | (a, b) :: r => by simp [kvseq, weq_refl, kvseq_refl r]
theorem fseq_refl : ∀ a : List (Nm × W), fseq a a = true
  | [] => rfl
  | (a, b) :: r => by simp [fseq, weq_refl, fseq_refl r]
theorem obeq_refl (o : Ob) : obeq o o = true := by cases o <;> simp [obeq, weqs_refl, kvseq_refl, fseq_refl]
theorem gpre_app (n : Nat) : ∀ (g x : G), gpre n g (g ++ x) = true
  | [], _ => rfl
  | a :: r, x => by simp [gpre, obeq_refl, gpre_app n r x]
theorem gc_app {g x : G} {w : W} (h : below g.length w = true) : gc g w (g ++ x) = g := by simp [gc, h, gpre_app]
theorem gc_self (g : G) (w : W) : gc g w g = g := by
  unfold gc
  split
  · simp
  · rfl
theorem gc_up {g g' : G} {w : W} (h : below g.length w = false) : gc g w g' = g' := by simp [gc, h]
section
variable {n : Nat}
@[simp] theorem below_non : below n .non = true := rfl
@[simp] theorem below_bl {b : Bool} : below n (.bl b) = true := rfl
@[simp] theorem below_int {i : Int} : below n (.int i) = true := rfl
@[simp] theorem below_str {s : List Nat} : below n (.str s) = true := rfl
@[simp] theorem below_tup {ws : List W} : below n (.tup ws) = belows n ws := rfl
@[simp] theorem below_fl {ws : List W} : below n (.fl ws) = belows n ws := rfl
@[simp] theorem below_ref {i : Nat} : below n (.ref i) = decide (i < n) := rfl
@[simp] theorem belows_nil : belows n [] = true := rfl
@[simp] theorem belows_cons {w : W} {ws : List W} : belows n (w :: ws) = (below n w && belows n ws) := rfl
@[simp high] theorem app_get {α : Type} {r l : List α} {k : Nat} : (r ++ l)[r.length + k]? = l[k]? := by rw [List.getElem?_append_right (by omega)]; congr 1; omega
@[simp high] theorem app_get0 {α : Type} {r l : List α} : (r ++ l)[r.length]? = l[0]? := app_get (k := 0)
@[simp high] theorem app_set {α : Type} {r l : List α} {k : Nat} {o : α} : (r ++ l).set (r.length + k) o = r ++ l.set k o := by rw [List.set_append_right _ _ (by omega)]; congr 2; omega
@[simp high] theorem app_set0 {α : Type} {r l : List α} {o : α} : (r ++ l).set r.length o = r ++ l.set 0 o := app_set (k := 0)
end
theorem atW_nat {α : Type} {xs : List α} (n : Nat) : atW xs n = xs[n]? := by
  simp only [atW, ixW]
  rw [if_pos (by omega)]
  by_cases h : n < xs.length
  · rw [if_pos (by omega)]; simp
  · rw [if_neg (by omega)]; simp; omega
@[simp] theorem atW_0 {α : Type} {xs : List α} : atW xs 0 = xs[0]? := atW_nat 0
@[simp] theorem atW_1 {α : Type} {xs : List α} : atW xs 1 = xs[1]? := atW_nat 1
@[simp] theorem atW_2 {α : Type} {xs : List α} : atW xs 2 = xs[2]? := atW_nat 2
@[simp] theorem atW_3 {α : Type} {xs : List α} : atW xs 3 = xs[3]? := atW_nat 3
@[simp] theorem atW_4 {α : Type} {xs : List α} : atW xs 4 = xs[4]? := atW_nat 4
@[simp] theorem atW_5 {α : Type} {xs : List α} : atW xs 5 = xs[5]? := atW_nat 5
@[simp] theorem atW_6 {α : Type} {xs : List α} : atW xs 6 = xs[6]? := atW_nat 6
@[simp] theorem atW_7 {α : Type} {xs : List α} : atW xs 7 = xs[7]? := atW_nat 7
@[simp] theorem atW_8 {α : Type} {xs : List α} : atW xs 8 = xs[8]? := atW_nat 8
theorem belows_ints (n : Nat) : ∀ (l : List Int), belows n (l.map W.int) = true
  | [] => rfl
  | i :: r => by simp [belows, below, belows_ints n r]
/-! ### the stream -/
structure SS where
  ns : List Int
  p : Int
  a : Int
  m : Int
  hp : 0 ≤ p
  ha : 0 ≤ a
  hm0 : 0 ≤ m
  hm : m < 2147483647
/-- the heap of a law: the script's copy, the stream, the rest -/
def hp (z : SS) (r : G) : G := .lst (z.ns.map W.int) :: .lst [.ref 0, .int z.p, .int z.a, .int z.m] :: r
section
variable {z z' : SS} {r x : G} {o : Ob} {w : W}
@[simp] theorem hp_app : hp z r ++ x = hp z (r ++ x) := rfl
@[simp] theorem hp_len : (hp z r).length = r.length + 2 := rfl
@[simp high] theorem hp_get {n : Nat} : (hp z r)[n + 2]? = r[n]? := rfl
theorem hp_get0 : (hp z r)[0]? = some (.lst (z.ns.map W.int)) := rfl
theorem hp_get1 : (hp z r)[1]? = some (.lst [.ref 0, .int z.p, .int z.a, .int z.m]) := rfl
@[simp high] theorem hp_set {n : Nat} : (hp z r).set (n + 2) o = hp z (r.set n o) := rfl
theorem gc_hp (h : below (r.length + 2) w = true) : gc (hp z r) w (hp z' (r ++ x)) = hp z' r := by
  have e : gpre (hp z r).length (hp z r) (hp z' (r ++ x)) = true := by
    simp [hp, gpre, lowO, belows_ints, belows, below, gpre_app]
  unfold gc
  rw [if_pos (by rw [hp_len, h]; simpa using e)]
  simp [hp]
theorem gc_hp0 : gc (hp z r) w (hp z' r) = hp z' r := by
  by_cases h : below (r.length + 2) w = true
  · have := gc_hp (z := z) (z' := z') (x := []) h
    simpa using this
  · unfold gc
    rw [if_neg]
    rw [hp_len]
    simp [h]
@[simp] theorem gc_hp_if : gc (hp z r) w (hp z' (r ++ x)) = if below (r.length + 2) w = true then hp z' r else hp z' (r ++ x) := by
  split
  · rename_i h; exact gc_hp h
  · rename_i h
    unfold gc
    rw [if_neg]
    rw [hp_len]
    simp [h]
@[simp] theorem gc_hp_self : gc (hp z r) w (hp z' r) = hp z' r := gc_hp0
end
/-- a heap's rest that has grown -/
def Ext (r r' : G) : Prop := ∃ y, r' = r ++ y
theorem Ext.rfl' {r : G} : Ext r r := ⟨[], by simp⟩
theorem Ext.app {r y : G} : Ext r (r ++ y) := ⟨y, rfl⟩
theorem Ext.trans {a b c : G} : Ext a b → Ext b c → Ext a c
  | ⟨x, e⟩, ⟨y, f⟩ => ⟨x ++ y, by rw [f, e, List.append_assoc]⟩
theorem Ext.le {a b : G} : Ext a b → a.length ≤ b.length
  | ⟨x, e⟩ => by rw [e]; simp
/-- an object of the rest, by its name -/
def At (r : G) (p : Nat) (o : Ob) : Prop := 2 ≤ p ∧ r[p - 2]? = some o
section
variable {z z' : SS} {r r' x : G} {o o' : Ob} {w : W} {p q : Nat}
theorem At.get (h : At r p o) : (hp z r)[p]? = some o := by
  obtain ⟨h1, h2⟩ := h
  obtain ⟨q, rfl⟩ : ∃ q, p = q + 2 := ⟨p - 2, by omega⟩
  simpa using h2
theorem At.lt (h : At r p o) : p < r.length + 2 := by
  obtain ⟨h1, h2⟩ := h
  have := (List.getElem?_eq_some_iff.mp h2).1
  omega
theorem At.ext (h : At r p o) (e : Ext r r') : At r' p o := by
  obtain ⟨y, rfl⟩ := e
  have := h.lt
  refine ⟨h.1, ?_⟩
  rw [List.getElem?_append_left (by have := h.1; omega)]
  exact h.2
theorem At.get' (h : At r p o) : (hp z (r ++ x))[p]? = some o := (h.ext .app).get
theorem At.new : At (r ++ [o]) (r.length + 2) o := ⟨by omega, by simp⟩
theorem At.set_self (h : At r p o) : At (r.set (p - 2) o') p o' := ⟨h.1, by have := h.lt; rw [List.getElem?_set_self (by have := h.1; omega)]⟩
theorem At.set_ne (h : At r p o) (ne : q ≠ p) (hq : 2 ≤ q) : At (r.set (q - 2) o') p o := ⟨h.1, by rw [List.getElem?_set_ne (by have := h.1; omega)]; exact h.2⟩
theorem At.put (h : At r p o) : (hp z r).set p o' = hp z (r.set (p - 2) o') := by
  obtain ⟨h1, h2⟩ := h
  obtain ⟨q, rfl⟩ : ∃ q, p = q + 2 := ⟨p - 2, by omega⟩
  simp
theorem At.append {xs : List W} {y : W} (h : At r p (.lst xs)) (hl : xs.length < lim) : M.runL .append p [y] (hp z r) = .ok .non (hp z (r.set (p - 2) (.lst (xs ++ [y])))) := by
  simp only [M.runL, h.get, if_pos hl, h.put]
theorem Ext.set {i : Nat} (h : Ext r r') (hi : r.length ≤ i) : Ext r (r'.set i o) := by
  obtain ⟨y, rfl⟩ := h
  refine ⟨y.set (i - r.length) o, ?_⟩
  rw [List.set_append_right _ _ hi]
theorem gc_ext (h : Ext r r') (hb : below (r.length + 2) w = true) : gc (hp z r) w (hp z' r') = hp z' r := by
  obtain ⟨y, rfl⟩ := h
  exact gc_hp hb
theorem gc_ext' (h : Ext r r') (hb : below (r.length + 2) w = true) : gc (hp z r) w (hp z' (r' ++ x)) = hp z' r := gc_ext (h.trans .app) hb
theorem gc_keep (hb : below (r.length + 2) w = false) : gc (hp z r) w (hp z' r') = hp z' r' := gc_up hb
end
theorem small_of {n : Int} (h : n.natAbs < 2 ^ 255) : smallI n = true := by
  unfold smallI
  rw [decide_eq_true_eq]
  by_cases z : n.natAbs = 0
  · rw [z]; decide
  · have := (Nat.log2_lt z).mpr h
    omega
@[simp] theorem small_lit {n : Int} (h : n.natAbs < 2 ^ 250) : smallI n = true := small_of (by omega)
theorem log_of {n : Int} (h : n.natAbs < 2 ^ 100) : n.natAbs.log2 < 9000 := by
  by_cases z : n.natAbs = 0
  · rw [z]; decide
  · have := (Nat.log2_lt z).mpr h
    omega
/-- a comprehension whose items draw: ints -/
theorem compD {E : Int → Prop} {i : Nat} {c : Env → G → R Bool} {el : Env → G → R W} {ρ : Env} {ws : List W} {z : SS} {r : G} {Q : List W → G → Prop} {X : Nat → G → Prop} (hc : ∀ ρ g, c ρ g = .ok true g)
    (h : ∀ w ∈ ws, ∀ z, (el (ρ.set i (some w)) (hp z r)).To (fun x g => ∃ v z', x = .int v ∧ E v ∧ g = hp z' r) noX) (q : ∀ (l : List Int) z', l.length = ws.length → (∀ v ∈ l, E v) → Q (l.map W.int) (hp z' r)) : (compV (.nm i) c el ρ ws (hp z r)).To Q X := by
  have := compV_To (t := .nm i) (c := c) (el := el) (ρ := ρ) (Q := Q) (X := X) (ws := ws) (acc := []) (g := hp z r)
    (P := fun rest acc g => (∀ w ∈ rest, w ∈ ws) ∧ ∃ (l : List Int) (z : SS), acc = l.map W.int ∧ g = hp z r ∧ (∀ v ∈ l, E v) ∧ l.length + rest.length = ws.length) ⟨fun _ h => h, [], z, rfl, rfl, by simp, by simp⟩ ?_ ?_
  · simpa using this
  · rintro w rest acc g ⟨hw, l, z, rfl, rfl, hl, hn⟩
    refine ⟨_, rfl, ?_⟩
    rw [hc]
    refine (h w (hw w List.mem_cons_self) z).imp ?_ fun _ _ h => h
    rintro x g ⟨v, z', rfl, hv, rfl⟩
    refine ⟨fun w h => hw w (List.mem_cons_of_mem _ h), l ++ [v], z', by simp, rfl, ?_, by simp at hn ⊢; omega⟩
    intro u hu
    rcases List.mem_append.mp hu with hu | hu
    · exact hl u hu
    · have : u = v := by simpa using hu
      rw [this]; exact hv
  · rintro acc g ⟨_, l, z, rfl, rfl, hl, hn⟩ xs rfl
    exact q l z (by simpa using hn) hl
/-- over whole numbers from 0 on -/
theorem compR_map {i : Nat} {c : Env → G → R Bool} {el : Env → G → R W} {ρ : Env} {f : Nat → W} {n : Nat} {g : G} (h : ∀ k, k < n → c (ρ.set i (some (.int k))) g = .ok true g ∧ el (ρ.set i (some (.int k))) g = .ok (f k) g) : compV (.nm i) c el ρ ((List.range n).map fun (k : Nat) => W.int k) g = .ok ((List.range n).map f) g := by
  have : ∀ (l : List Nat), (∀ k ∈ l, k < n) → compV (.nm i) c el ρ (l.map fun (k : Nat) => W.int k) g = .ok (l.map f) g := by
    intro l
    induction l with
    | nil => intro _; rfl
    | cons a l ih =>
      intro hl
      obtain ⟨h1, h2⟩ := h a (hl a List.mem_cons_self)
      simp only [List.map_cons, compV, Tg.put, h1, h2, R.nx, R.bind, ih fun k hk => hl k (List.mem_cons_of_mem _ hk)]
  exact this _ fun k hk => List.mem_range.mp hk
theorem compR_filter {i : Nat} {c : Env → G → R Bool} {el : Env → G → R W} {ρ : Env} {f : Nat → W} {q : Nat → Bool} {n : Nat} {g : G} (h : ∀ k, k < n → c (ρ.set i (some (.int k))) g = .ok (q k) g ∧ (q k = true → el (ρ.set i (some (.int k))) g = .ok (f k) g)) : compV (.nm i) c el ρ ((List.range n).map fun (k : Nat) => W.int k) g = .ok (((List.range n).filter q).map f) g := by
  have : ∀ (l : List Nat), (∀ k ∈ l, k < n) → compV (.nm i) c el ρ (l.map fun (k : Nat) => W.int k) g = .ok ((l.filter q).map f) g := by
    intro l
    induction l with
    | nil => intro _; rfl
    | cons a l ih =>
      intro hl
      obtain ⟨h1, h2⟩ := h a (hl a List.mem_cons_self)
      have i := ih fun k hk => hl k (List.mem_cons_of_mem _ hk)
      cases hq : q a with
      | true => simp only [List.map_cons, compV, Tg.put, h1, h2 hq, hq, R.nx, R.bind, i, List.filter_cons_of_pos hq]
      | false => simp only [List.map_cons, compV, Tg.put, h1, hq, R.nx, R.bind, i, List.filter_cons_of_neg (by rw [hq]; decide : ¬ q a = true)]
  exact this _ fun k hk => List.mem_range.mp hk
/-- items that draw, over a list of values: what they keep -/
theorem compP {E : Nat → W → W → Prop} {i : Nat} {c : Env → G → R Bool} {el : Env → G → R W} {ρ : Env} {ws : List W} {z : SS} {r : G} {Q : List W → G → Prop} {X : Nat → G → Prop} (hc : ∀ ρ g, c ρ g = .ok true g)
    (h : ∀ j, (hj : j < ws.length) → ∀ z y, (el (ρ.set i (some ws[j])) (hp z (r ++ y))).To (fun x g => E j ws[j] x ∧ ∃ z' y', g = hp z' (r ++ y')) noX) (q : ∀ (l : List W) z' y, l.length = ws.length → (∀ j (h1 : j < ws.length) (h2 : j < l.length), E j ws[j] l[j]) → Q l (hp z' (r ++ y))) : (compV (.nm i) c el ρ ws (hp z r)).To Q X := by
  have := compV_To (t := .nm i) (c := c) (el := el) (ρ := ρ) (Q := Q) (X := X) (ws := ws) (acc := []) (g := hp z r)
    (P := fun rest acc g => ws.drop acc.length = rest ∧ acc.length ≤ ws.length ∧ ∃ (z : SS) (y : G), g = hp z (r ++ y) ∧ ∀ j (h1 : j < ws.length) (h2 : j < acc.length), E j ws[j] acc[j]) ⟨rfl, Nat.zero_le _, z, [], by simp, by intro j _ h2; simp at h2⟩ ?_ ?_
  · simpa using this
  · rintro w rest acc g ⟨hw, hn, z, y, rfl, hl⟩
    have hlt : acc.length < ws.length := by
      rcases Nat.lt_or_ge acc.length ws.length with h | h
      · exact h
      · rw [List.drop_eq_nil_of_le h] at hw; cases hw
    rw [List.drop_eq_getElem_cons hlt] at hw
    obtain ⟨e1, e2⟩ := List.cons.inj hw
    refine ⟨_, rfl, ?_⟩
    rw [hc]
    have := h acc.length hlt z y
    rw [e1] at this
    refine this.imp ?_ fun _ _ h => h
    rintro x g ⟨hE, z', y', rfl⟩
    refine ⟨by simpa using e2, by simp; omega, z', y', rfl, ?_⟩
    intro j h1 h2
    by_cases hj : j < acc.length
    · rw [List.getElem_append_left hj]; exact hl j h1 hj
    · have : j = acc.length := by simp at h2; omega
      subst this
      simp only [List.getElem_append_right (Nat.le_refl _), Nat.sub_self, List.getElem_cons_zero, e1]
      exact hE
  · rintro acc g ⟨hd, hn, z, y, rfl, hl⟩ xs rfl
    exact q acc z y (by rw [List.drop_eq_nil_iff] at hd; omega) hl
/-! ### equal data -/
theorem eqbs_ints (g : G) (n : Nat) : ∀ l : List Int, eqbs (eqb g (n + 1)) (l.map W.int) (l.map W.int) = true
  | [] => rfl
  | i :: r => by simp [eqbs, eqb, lstOf, seqb, eqbs_ints g n r]
theorem data_ints (g : G) (n : Nat) : ∀ l : List Int, (l.map W.int).all (dataOk g (n + 1)) = true
  | [] => rfl
  | i :: r => by simp [dataOk]
theorem eqW_ints {g : G} {i j : Nat} {l : List Int} (h : g[i]? = some (.lst (l.map W.int))) (k : g[j]? = some (.lst (l.map W.int))) : eqW (.ref i) (.ref j) g = some true := by
  have d : ∀ {i : Nat}, g[i]? = some (.lst (l.map W.int)) → dataOk g 60 (.ref i) = true := by
    intro i h
    simp only [dataOk, lstOf, h]
    exact data_ints g 58 l
  simp only [eqW, scal2, d h, d k]
  simp only [eqb, lstOf, h, k, eqbs_ints g 58 l]
  simp
/-! ### operations, by the kinds of their values -/
@[simp] theorem run_add {a b : Int} {g : G} : Bop.run .add (.int a) (.int b) g = .ok (.int (a + b)) g := rfl
@[simp] theorem run_sub {a b : Int} {g : G} : Bop.run .sub (.int a) (.int b) g = .ok (.int (a - b)) g := rfl
@[simp] theorem run_mul {a b : Int} {g : G} (h : smallI a = true) (k : smallI b = true) : Bop.run .mul (.int a) (.int b) g = .ok (.int (a * b)) g := by simp [Bop.run, Bop.runI, h, k]
@[simp] theorem run_mod {a b : Int} {g : G} (h : 0 < b) : Bop.run .mod (.int a) (.int b) g = .ok (.int (a % b)) g := by simp [Bop.run, Bop.runI, h]
@[simp] theorem run_fdiv {a b : Int} {g : G} (h : 0 < b) (k : b.natAbs < 2 ^ 100) : Bop.run .fdiv (.int a) (.int b) g = .ok (.int (a / b)) g := by have := log_of k; simp [Bop.run, Bop.runI, h, this]
@[simp] theorem run_pow {a b : Int} {g : G} (h : 0 ≤ b) (k : b ≤ 1000000) (l : a.natAbs < 2 ^ 64) : Bop.run .pow (.int a) (.int b) g = .ok (.int (a ^ b.toNat)) g := by simp only [Bop.run, Bop.runI]; rw [if_pos ⟨h, k, l⟩]; rfl
@[simp] theorem run_band {a b : Int} {g : G} : Bop.run .band (.int a) (.int b) g = .ok (.int (PySem.Builtin.bitAnd a b)) g := rfl
@[simp] theorem run_bor {a b : Int} {g : G} : Bop.run .bor (.int a) (.int b) g = .ok (.int (PySem.Builtin.bitOr a b)) g := rfl
@[simp] theorem run_bxor {a b : Int} {g : G} : Bop.run .bxor (.int a) (.int b) g = .ok (.int (PySem.Builtin.bitXor a b)) g := rfl
@[simp] theorem run_catS {x y : List Nat} {g : G} (h : x.length + y.length ≤ lim) : Bop.run .add (.str x) (.str y) g = .ok (.str (x ++ y)) g := by simp [Bop.run, h]
@[simp] theorem run_catT {x y : List W} {g : G} (h : x.length + y.length ≤ lim) : Bop.run .add (.tup x) (.tup y) g = .ok (.tup (x ++ y)) g := by simp [Bop.run, h]
@[simp] theorem run_catL {i j : Nat} {g : G} : Bop.run .add (.ref i) (.ref j) g = (match g[i]?, g[j]? with | some (.lst x), some (.lst y) => if x.length + y.length ≤ lim then .ok (.ref g.length) (g ++ [.lst (x ++ y)]) else .err | _, _ => .err) := by
  rcases h : g[i]? with _ | (_|_|_) <;> rcases k : g[j]? with _ | (_|_|_) <;> simp [Bop.run, h, k]
@[simp] theorem run_repL {i : Nat} {k : Int} {g : G} : Bop.run .mul (.ref i) (.int k) g = (match g[i]? with | some (.lst x) => if k ≤ lim ∧ -lim ≤ k ∧ x.length * k.toNat ≤ lim then .ok (.ref g.length) (g ++ [.lst (List.replicate k.toNat x).flatten]) else .err | _ => .err) := by
  rcases h : g[i]? with _ | (_|_|_) <;> simp [Bop.run, h]
theorem lim_nat : lim = 1000000 := rfl
theorem lim_ok {n : Int} (h0 : -1000 ≤ n) (h1 : n ≤ 1000) : n ≤ (lim : Int) ∧ -(lim : Int) ≤ n := by have : (lim : Int) = 1000000 := rfl; omega
theorem lim_le {n : Nat} (h1 : n ≤ 1000) : n ≤ lim := by rw [lim_nat]; omega
@[simp] theorem lit_lim {n : Nat} (h : n ≤ 1000) : n ≤ lim := lim_le h
@[simp] theorem ilit_lim {n : Int} (h : n ≤ 1000) : n ≤ (lim : Int) := by have : (lim : Int) = 1000000 := rfl; omega
@[simp] theorem nlit_lim {n : Int} (h : -1000 ≤ n) : -(lim : Int) ≤ n := by have : (lim : Int) = 1000000 := rfl; omega
@[simp] theorem cop_lt {a b : Int} {g : G} : Cop.run .lt (.int a) (.int b) g = some (decide (a < b)) := rfl
@[simp] theorem cop_le {a b : Int} {g : G} : Cop.run .le (.int a) (.int b) g = some (decide (a ≤ b)) := rfl
@[simp] theorem cop_gt {a b : Int} {g : G} : Cop.run .gt (.int a) (.int b) g = some (decide (b < a)) := rfl
@[simp] theorem cop_ge {a b : Int} {g : G} : Cop.run .ge (.int a) (.int b) g = some (decide (b ≤ a)) := rfl
@[simp] theorem cop_eq_ii {a b : Int} {g : G} : Cop.run .eq (.int a) (.int b) g = some (decide (a = b)) := by simp [Cop.run, eqW, scal2, seqb, BEq.beq]
@[simp] theorem cop_eq_ss {a b : List Nat} {g : G} : Cop.run .eq (.str a) (.str b) g = some (decide (a = b)) := by by_cases h : a = b <;> simp [Cop.run, eqW, scal2, seqb, h]
@[simp] theorem cop_eq_bb {a b : Bool} {g : G} : Cop.run .eq (.bl a) (.bl b) g = some (decide (a = b)) := by cases a <;> cases b <;> rfl
@[simp] theorem cop_eq_intnon {a : Int} {g : G} : Cop.run .eq (.int a) .non g = some false := rfl
@[simp] theorem cop_eq_nonint {a : Int} {g : G} : Cop.run .eq .non (.int a) g = some false := rfl
@[simp] theorem cop_eq_strnon {s : List Nat} {g : G} : Cop.run .eq (.str s) .non g = some false := rfl
@[simp] theorem cop_eq_nonstr {s : List Nat} {g : G} : Cop.run .eq .non (.str s) g = some false := rfl
@[simp] theorem cop_eq_intstr {a : Int} {s : List Nat} {g : G} : Cop.run .eq (.int a) (.str s) g = some false := rfl
@[simp] theorem cop_eq_strint {a : Int} {s : List Nat} {g : G} : Cop.run .eq (.str s) (.int a) g = some false := rfl
@[simp] theorem cop_ne_ii {a b : Int} {g : G} : Cop.run .ne (.int a) (.int b) g = some (!decide (a = b)) := by simp [Cop.run, eqW, scal2, seqb, BEq.beq]
@[simp] theorem cop_ne_ss {a b : List Nat} {g : G} : Cop.run .ne (.str a) (.str b) g = some (!decide (a = b)) := by by_cases h : a = b <;> simp [Cop.run, eqW, scal2, seqb, h]
@[simp] theorem cop_ne_bb {a b : Bool} {g : G} : Cop.run .ne (.bl a) (.bl b) g = some (!decide (a = b)) := by cases a <;> cases b <;> rfl
@[simp] theorem cop_ne_intnon {a : Int} {g : G} : Cop.run .ne (.int a) .non g = some true := rfl
@[simp] theorem cop_ne_nonint {a : Int} {g : G} : Cop.run .ne .non (.int a) g = some true := rfl
@[simp] theorem cop_ne_strnon {s : List Nat} {g : G} : Cop.run .ne (.str s) .non g = some true := rfl
@[simp] theorem cop_ne_nonstr {s : List Nat} {g : G} : Cop.run .ne .non (.str s) g = some true := rfl
@[simp] theorem cop_ne_intstr {a : Int} {s : List Nat} {g : G} : Cop.run .ne (.int a) (.str s) g = some true := rfl
@[simp] theorem cop_ne_strint {a : Int} {s : List Nat} {g : G} : Cop.run .ne (.str s) (.int a) g = some true := rfl
@[simp] theorem cop_is {x : W} {g : G} : Cop.run .is_ x .non g = some (match x with | .non => true | _ => false) := by cases x <;> rfl
@[simp] theorem cop_isnot {x : W} {g : G} : Cop.run .isnot x .non g = some (match x with | .non => false | _ => true) := by cases x <;> rfl
@[simp] theorem tru_bl {b : Bool} {g : G} : truthW (.bl b) g = some b := rfl
@[simp] theorem tru_int {i : Int} {g : G} : truthW (.int i) g = some (!decide (i = 0)) := by by_cases h : i = 0 <;> simp [truthW, h, bne]
@[simp] theorem tru_tup {ws : List W} {g : G} : truthW (.tup ws) g = some (!ws.isEmpty) := rfl
@[simp] theorem tru_non {g : G} : truthW .non g = some false := rfl
@[simp] theorem b1_abs {i : Int} {g : G} : B1.run .abs (.int i) g = some (.int (if i < 0 then -i else i)) := rfl
@[simp] theorem b1_int {i : Int} {g : G} : B1.run .int (.int i) g = some (.int i) := rfl
@[simp] theorem b1_intb {i : Bool} {g : G} : B1.run .int (.bl i) g = some (.int (if i = true then 1 else 0)) := rfl
@[simp] theorem b1_lent {ws : List W} {g : G} : B1.run .len (.tup ws) g = some (.int ws.length) := rfl
@[simp] theorem b1_lenr {i : Nat} {g : G} : B1.run .len (.ref i) g = (match g[i]? with | some (.lst ws) => some (.int ws.length) | some (.dct kvs) => some (.int kvs.length) | some (.fz kvs) => some (.int kvs.length) | _ => none) := rfl
@[simp] theorem b1_lens {z : List Nat} {g : G} (h : z.length ≤ lim) : B1.run .len (.str z) g = some (.int z.length) := by simp [B1.run, h]
@[simp] theorem tru_ref {i : Nat} {g : G} : truthW (.ref i) g = (match g[i]? with | some (.lst ws) => some (!ws.isEmpty) | some (.dct kvs) => some (!kvs.isEmpty) | _ => none) := rfl
@[simp] theorem rbs_tuple {ws : List W} {g : G} : BS.run .tuple ws g = .ok (.tup ws) g := rfl
@[simp] theorem rbs_list {ws : List W} {g : G} : BS.run .list ws g = .ok (.ref g.length) (g ++ [.lst ws]) := rfl
@[simp] theorem rbs_any {ws : List W} {g : G} : BS.run .any ws g = R.of ((asBls ws).map fun l => W.bl (l.any id)) g := rfl
@[simp] theorem rbs_all {ws : List W} {g : G} : BS.run .all ws g = R.of ((asBls ws).map fun l => W.bl (l.all id)) g := rfl
@[simp] theorem rbs_sum {ws : List W} {g : G} : BS.run .sum ws g = R.of ((asInts ws).map fun l => W.int l.sum) g := rfl
theorem asBls_map : ∀ l : List Bool, asBls (l.map W.bl) = some l
  | [] => rfl
  | b :: r => by simp [asBls, asBls_map r]
theorem asInts_map : ∀ l : List Int, asInts (l.map W.int) = some l
  | [] => rfl
  | b :: r => by simp [asInts, asInts_map r]
theorem startE_def (n : Nat) (ws : List W) : startE n ws = ws.map some ++ List.replicate (n - ws.length) none := rfl
end Dl

namespace Kx
open PySem L2 Dl
def top (i : Nat) : Stmt := PySem.Challenge.pw_drawloom_k61_lanes.main.body.getD i (.Pass ⟨0, 0, 0, 0⟩)
def clsBody : Stmt → List Stmt
  | .ClassDef _ _ _ b _ _ _ _ _ _ _ => b
  | _ => []
def n0 : List Str := [("value" : PySem.Str)]
def f0 : FnI where
  d := ⟨("is_whole", none), "is_whole", "is_whole", defArgs (top 7), defBody (top 7), defScope (top 7), [], []⟩
  N := n0
  ps := [("value" : PySem.Str)]
  d0 := rfl
  k0 := rfl
  sc := ⟨by kernel_rfl, by kernel_rfl, by kernel_rfl, by decide +kernel, by kernel_rfl, by decide +kernel, by decide +kernel⟩
  bd := fun _ _ _ _ _ _ us hl => match us, hl with | [_], _ => rfl
def n1 : List Str := [("value" : PySem.Str)]
def f1 : FnI where
  d := ⟨("is_word", none), "is_word", "is_word", defArgs (top 8), defBody (top 8), defScope (top 8), [], []⟩
  N := n1
  ps := [("value" : PySem.Str)]
  d0 := rfl
  k0 := rfl
  sc := ⟨by kernel_rfl, by kernel_rfl, by kernel_rfl, by decide +kernel, by kernel_rfl, by decide +kernel, by decide +kernel⟩
  bd := fun _ _ _ _ _ _ us hl => match us, hl with | [_], _ => rfl
def n2 : List Str := [("number" : PySem.Str), ("rest" : PySem.Str)]
def f2 : FnI where
  d := ⟨("wrapped", none), "wrapped", "wrapped", defArgs (top 9), defBody (top 9), defScope (top 9), [], []⟩
  N := n2
  ps := [("number" : PySem.Str)]
  d0 := rfl
  k0 := rfl
  sc := ⟨by kernel_rfl, by kernel_rfl, by kernel_rfl, by decide +kernel, by kernel_rfl, by decide +kernel, by decide +kernel⟩
  bd := fun _ _ _ _ _ _ us hl => match us, hl with | [_], _ => rfl
def n3 : List Str := [("a" : PySem.Str), ("b" : PySem.Str), ("size" : PySem.Str)]
def f3 : FnI where
  d := ⟨("divided", none), "divided", "divided", defArgs (top 10), defBody (top 10), defScope (top 10), [], []⟩
  N := n3
  ps := [("a" : PySem.Str), ("b" : PySem.Str)]
  d0 := rfl
  k0 := rfl
  sc := ⟨by kernel_rfl, by kernel_rfl, by kernel_rfl, by decide +kernel, by kernel_rfl, by decide +kernel, by decide +kernel⟩
  bd := fun _ _ _ _ _ _ us hl => match us, hl with | [_, _], _ => rfl
def n4 : List Str := [("op" : PySem.Str), ("a" : PySem.Str), ("b" : PySem.Str)]
def f4 : FnI where
  d := ⟨("arithmetic", none), "arithmetic", "arithmetic", defArgs (top 11), defBody (top 11), defScope (top 11), [], []⟩
  N := n4
  ps := [("op" : PySem.Str), ("a" : PySem.Str), ("b" : PySem.Str)]
  d0 := rfl
  k0 := rfl
  sc := ⟨by kernel_rfl, by kernel_rfl, by kernel_rfl, by decide +kernel, by kernel_rfl, by decide +kernel, by decide +kernel⟩
  bd := fun _ _ _ _ _ _ us hl => match us, hl with | [_, _, _], _ => rfl
def n5 : List Str := [("op" : PySem.Str), ("a" : PySem.Str), ("b" : PySem.Str)]
def f5 : FnI where
  d := ⟨("bits", none), "bits", "bits", defArgs (top 12), defBody (top 12), defScope (top 12), [], []⟩
  N := n5
  ps := [("op" : PySem.Str), ("a" : PySem.Str), ("b" : PySem.Str)]
  d0 := rfl
  k0 := rfl
  sc := ⟨by kernel_rfl, by kernel_rfl, by kernel_rfl, by decide +kernel, by kernel_rfl, by decide +kernel, by decide +kernel⟩
  bd := fun _ _ _ _ _ _ us hl => match us, hl with | [_, _, _], _ => rfl
def n6 : List Str := [("op" : PySem.Str), ("a" : PySem.Str), ("b" : PySem.Str)]
def f6 : FnI where
  d := ⟨("compared", none), "compared", "compared", defArgs (top 13), defBody (top 13), defScope (top 13), [], []⟩
  N := n6
  ps := [("op" : PySem.Str), ("a" : PySem.Str), ("b" : PySem.Str)]
  d0 := rfl
  k0 := rfl
  sc := ⟨by kernel_rfl, by kernel_rfl, by kernel_rfl, by decide +kernel, by kernel_rfl, by decide +kernel, by decide +kernel⟩
  bd := fun _ _ _ _ _ _ us hl => match us, hl with | [_, _, _], _ => rfl
def n7 : List Str := [("op" : PySem.Str), ("a" : PySem.Str), ("b" : PySem.Str), ("found" : PySem.Str)]
def f7 : FnI where
  d := ⟨("binary", none), "binary", "binary", defArgs (top 14), defBody (top 14), defScope (top 14), [], []⟩
  N := n7
  ps := [("op" : PySem.Str), ("a" : PySem.Str), ("b" : PySem.Str)]
  d0 := rfl
  k0 := rfl
  sc := ⟨by kernel_rfl, by kernel_rfl, by kernel_rfl, by decide +kernel, by kernel_rfl, by decide +kernel, by decide +kernel⟩
  bd := fun _ _ _ _ _ _ us hl => match us, hl with | [_, _, _], _ => rfl
def n8 : List Str := [("op" : PySem.Str), ("a" : PySem.Str)]
def f8 : FnI where
  d := ⟨("unary", none), "unary", "unary", defArgs (top 15), defBody (top 15), defScope (top 15), [], []⟩
  N := n8
  ps := [("op" : PySem.Str), ("a" : PySem.Str)]
  d0 := rfl
  k0 := rfl
  sc := ⟨by kernel_rfl, by kernel_rfl, by kernel_rfl, by decide +kernel, by kernel_rfl, by decide +kernel, by decide +kernel⟩
  bd := fun _ _ _ _ _ _ us hl => match us, hl with | [_, _], _ => rfl
def n9 : List Str := [("name" : PySem.Str), ("thread" : PySem.Str), ("launch" : PySem.Str), ("grid" : PySem.Str), ("block" : PySem.Str), ("_" : PySem.Str)]
def f9 : FnI where
  d := ⟨("special", none), "special", "special", defArgs (top 18), defBody (top 18), defScope (top 18), [], []⟩
  N := n9
  ps := [("name" : PySem.Str), ("thread" : PySem.Str), ("launch" : PySem.Str)]
  d0 := rfl
  k0 := rfl
  sc := ⟨by kernel_rfl, by kernel_rfl, by kernel_rfl, by decide +kernel, by kernel_rfl, by decide +kernel, by decide +kernel⟩
  bd := fun _ _ _ _ _ _ us hl => match us, hl with | [_, _, _], _ => rfl
def n10 : List Str := [("code" : PySem.Str)]
def f10 : FnI where
  d := ⟨("first_lane", none), "first_lane", "first_lane", defArgs (top 21), defBody (top 21), defScope (top 21), [], []⟩
  N := n10
  ps := [("code" : PySem.Str)]
  d0 := rfl
  k0 := rfl
  sc := ⟨by kernel_rfl, by kernel_rfl, by kernel_rfl, by decide +kernel, by kernel_rfl, by decide +kernel, by decide +kernel⟩
  bd := fun _ _ _ _ _ _ us hl => match us, hl with | [_], _ => rfl
def n11 : List Str := [("code" : PySem.Str), ("lane" : PySem.Str), ("at" : PySem.Str), ("words" : PySem.Str), ("_" : PySem.Str), ("instruction" : PySem.Str), ("word" : PySem.Str)]
def f11 : FnI where
  d := ⟨("request", none), "request", "request", defArgs (top 22), defBody (top 22), defScope (top 22), [], []⟩
  N := n11
  ps := [("code" : PySem.Str), ("lane" : PySem.Str)]
  d0 := rfl
  k0 := rfl
  sc := ⟨by kernel_rfl, by kernel_rfl, by kernel_rfl, by decide +kernel, by kernel_rfl, by decide +kernel, by decide +kernel⟩
  bd := fun _ _ _ _ _ _ us hl => match us, hl with | [_, _], _ => rfl
def n12 : List Str := [("row" : PySem.Str), ("at" : PySem.Str), ("word" : PySem.Str)]
def f12 : FnI where
  d := ⟨("changed", none), "changed", "changed", defArgs (top 23), defBody (top 23), defScope (top 23), [], []⟩
  N := n12
  ps := [("row" : PySem.Str), ("at" : PySem.Str), ("word" : PySem.Str)]
  d0 := rfl
  k0 := rfl
  sc := ⟨by kernel_rfl, by kernel_rfl, by kernel_rfl, by decide +kernel, by kernel_rfl, by decide +kernel, by decide +kernel⟩
  bd := fun _ _ _ _ _ _ us hl => match us, hl with | [_, _, _], _ => rfl
def n13 : List Str := [("instruction" : PySem.Str), ("lane" : PySem.Str), ("launch" : PySem.Str), ("thread" : PySem.Str), ("word" : PySem.Str), ("kind" : PySem.Str), ("words" : PySem.Str)]
def f13 : FnI where
  d := ⟨("result", none), "result", "result", defArgs (top 24), defBody (top 24), defScope (top 24), [], []⟩
  N := n13
  ps := [("instruction" : PySem.Str), ("lane" : PySem.Str), ("launch" : PySem.Str), ("thread" : PySem.Str), ("word" : PySem.Str)]
  d0 := rfl
  k0 := rfl
  sc := ⟨by kernel_rfl, by kernel_rfl, by kernel_rfl, by decide +kernel, by kernel_rfl, by decide +kernel, by decide +kernel⟩
  bd := fun _ _ _ _ _ _ us hl => match us, hl with | [_, _, _, _, _], _ => rfl
def n14 : List Str := [("code" : PySem.Str), ("launch" : PySem.Str), ("thread" : PySem.Str), ("lane" : PySem.Str), ("word" : PySem.Str), ("at" : PySem.Str), ("words" : PySem.Str), ("cells" : PySem.Str), ("instruction" : PySem.Str), ("kind" : PySem.Str), ("following" : PySem.Str), ("found" : PySem.Str)]
def f14 : FnI where
  d := ⟨("behind", none), "behind", "behind", defArgs (top 25), defBody (top 25), defScope (top 25), [], []⟩
  N := n14
  ps := [("code" : PySem.Str), ("launch" : PySem.Str), ("thread" : PySem.Str), ("lane" : PySem.Str), ("word" : PySem.Str)]
  d0 := rfl
  k0 := rfl
  sc := ⟨by kernel_rfl, by kernel_rfl, by kernel_rfl, by decide +kernel, by kernel_rfl, by decide +kernel, by decide +kernel⟩
  bd := fun _ _ _ _ _ _ us hl => match us, hl with | [_, _, _, _, _], _ => rfl
def n15 : List Str := [("value" : PySem.Str), ("sign" : PySem.Str)]
def f15 : FnI where
  d := ⟨("is_name", none), "is_name", "is_name", defArgs (top 37), defBody (top 37), defScope (top 37), [], []⟩
  N := n15
  ps := [("value" : PySem.Str)]
  d0 := rfl
  k0 := rfl
  sc := ⟨by kernel_rfl, by kernel_rfl, by kernel_rfl, by decide +kernel, by kernel_rfl, by decide +kernel, by decide +kernel⟩
  bd := fun _ _ _ _ _ _ us hl => match us, hl with | [_], _ => rfl
def n16 : List Str := [("value" : PySem.Str), ("words" : PySem.Str)]
def f16 : FnI where
  d := ⟨("is_one_of", none), "is_one_of", "is_one_of", defArgs (top 38), defBody (top 38), defScope (top 38), [], []⟩
  N := n16
  ps := [("value" : PySem.Str), ("words" : PySem.Str)]
  d0 := rfl
  k0 := rfl
  sc := ⟨by kernel_rfl, by kernel_rfl, by kernel_rfl, by decide +kernel, by kernel_rfl, by decide +kernel, by decide +kernel⟩
  bd := fun _ _ _ _ _ _ us hl => match us, hl with | [_, _], _ => rfl
def n17 : List Str := [("value" : PySem.Str)]
def f17 : FnI where
  d := ⟨("is_pair", none), "is_pair", "is_pair", defArgs (top 39), defBody (top 39), defScope (top 39), [], []⟩
  N := n17
  ps := [("value" : PySem.Str)]
  d0 := rfl
  k0 := rfl
  sc := ⟨by kernel_rfl, by kernel_rfl, by kernel_rfl, by decide +kernel, by kernel_rfl, by decide +kernel, by decide +kernel⟩
  bd := fun _ _ _ _ _ _ us hl => match us, hl with | [_], _ => rfl
def n18 : List Str := [("value" : PySem.Str), ("row" : PySem.Str)]
def f18 : FnI where
  d := ⟨("are_params", none), "are_params", "are_params", defArgs (top 40), defBody (top 40), defScope (top 40), [], []⟩
  N := n18
  ps := [("value" : PySem.Str)]
  d0 := rfl
  k0 := rfl
  sc := ⟨by kernel_rfl, by kernel_rfl, by kernel_rfl, by decide +kernel, by kernel_rfl, by decide +kernel, by decide +kernel⟩
  bd := fun _ _ _ _ _ _ us hl => match us, hl with | [_], _ => rfl
def n19 : List Str := [("value" : PySem.Str), ("row" : PySem.Str)]
def f19 : FnI where
  d := ⟨("are_shared", none), "are_shared", "are_shared", defArgs (top 41), defBody (top 41), defScope (top 41), [], []⟩
  N := n19
  ps := [("value" : PySem.Str)]
  d0 := rfl
  k0 := rfl
  sc := ⟨by kernel_rfl, by kernel_rfl, by kernel_rfl, by decide +kernel, by kernel_rfl, by decide +kernel, by decide +kernel⟩
  bd := fun _ _ _ _ _ _ us hl => match us, hl with | [_], _ => rfl
def n20 : List Str := [("params" : PySem.Str), ("shared" : PySem.Str), ("names" : PySem.Str), ("row" : PySem.Str)]
def f20 : FnI where
  d := ⟨("have_names", none), "have_names", "have_names", defArgs (top 42), defBody (top 42), defScope (top 42), [], []⟩
  N := n20
  ps := [("params" : PySem.Str), ("shared" : PySem.Str)]
  d0 := rfl
  k0 := rfl
  sc := ⟨by kernel_rfl, by kernel_rfl, by kernel_rfl, by decide +kernel, by kernel_rfl, by decide +kernel, by decide +kernel⟩
  bd := fun _ _ _ _ _ _ us hl => match us, hl with | [_, _], _ => rfl
def n21 : List Str := [("value" : PySem.Str), ("most" : PySem.Str)]
def f21 : FnI where
  d := ⟨("is_below", none), "is_below", "is_below", defArgs (top 49), defBody (top 49), defScope (top 49), [], []⟩
  N := n21
  ps := [("value" : PySem.Str), ("most" : PySem.Str)]
  d0 := rfl
  k0 := rfl
  sc := ⟨by kernel_rfl, by kernel_rfl, by kernel_rfl, by decide +kernel, by kernel_rfl, by decide +kernel, by decide +kernel⟩
  bd := fun _ _ _ _ _ _ us hl => match us, hl with | [_, _], _ => rfl
def n22 : List Str := [("value" : PySem.Str), ("code" : PySem.Str)]
def f22 : FnI where
  d := ⟨("is_array", none), "is_array", "is_array", defArgs (top 50), defBody (top 50), defScope (top 50), [], []⟩
  N := n22
  ps := [("value" : PySem.Str), ("code" : PySem.Str)]
  d0 := rfl
  k0 := rfl
  sc := ⟨by kernel_rfl, by kernel_rfl, by kernel_rfl, by decide +kernel, by kernel_rfl, by decide +kernel, by decide +kernel⟩
  bd := fun _ _ _ _ _ _ us hl => match us, hl with | [_, _], _ => rfl
def n23 : List Str := [("kind" : PySem.Str), ("value" : PySem.Str), ("code" : PySem.Str), ("count" : PySem.Str)]
def f23 : FnI where
  d := ⟨("is_part", none), "is_part", "is_part", defArgs (top 51), defBody (top 51), defScope (top 51), [], []⟩
  N := n23
  ps := [("kind" : PySem.Str), ("value" : PySem.Str), ("code" : PySem.Str)]
  d0 := rfl
  k0 := rfl
  sc := ⟨by kernel_rfl, by kernel_rfl, by kernel_rfl, by decide +kernel, by kernel_rfl, by decide +kernel, by decide +kernel⟩
  bd := fun _ _ _ _ _ _ us hl => match us, hl with | [_, _, _], _ => rfl
def n24 : List Str := [("value" : PySem.Str), ("code" : PySem.Str), ("form" : PySem.Str), ("at" : PySem.Str)]
def f24 : FnI where
  d := ⟨("is_instruction", none), "is_instruction", "is_instruction", defArgs (top 52), defBody (top 52), defScope (top 52), [], []⟩
  N := n24
  ps := [("value" : PySem.Str), ("code" : PySem.Str)]
  d0 := rfl
  k0 := rfl
  sc := ⟨by kernel_rfl, by kernel_rfl, by kernel_rfl, by decide +kernel, by kernel_rfl, by decide +kernel, by decide +kernel⟩
  bd := fun _ _ _ _ _ _ us hl => match us, hl with | [_, _], _ => rfl
def n25 : List Str := [("value" : PySem.Str), ("rows" : PySem.Str), ("row" : PySem.Str)]
def f25 : FnI where
  d := ⟨("check_code", none), "check_code", "check_code", defArgs (top 53), defBody (top 53), defScope (top 53), [], []⟩
  N := n25
  ps := [("value" : PySem.Str)]
  d0 := rfl
  k0 := rfl
  sc := ⟨by kernel_rfl, by kernel_rfl, by kernel_rfl, by decide +kernel, by kernel_rfl, by decide +kernel, by decide +kernel⟩
  bd := fun _ _ _ _ _ _ us hl => match us, hl with | [_], _ => rfl
def n26 : List Str := [("_law_script" : PySem.Str), ("_law_mixed" : PySem.Str), ("_law_cell" : PySem.Str)]
def f26 : FnI where
  d := ⟨("_law_stream", none), "_law_stream", "_law_stream", defArgs (top 55), defBody (top 55), defScope (top 55), [], []⟩
  N := n26
  ps := [("_law_script" : PySem.Str)]
  d0 := rfl
  k0 := rfl
  sc := ⟨by kernel_rfl, by kernel_rfl, by kernel_rfl, by decide +kernel, by kernel_rfl, by decide +kernel, by decide +kernel⟩
  bd := fun _ _ _ _ _ _ us hl => match us, hl with | [_], _ => rfl
def n27 : List Str := [("_law_stream_here" : PySem.Str), ("_law_many" : PySem.Str), ("_law_value" : PySem.Str)]
def f27 : FnI where
  d := ⟨("_law_draw", none), "_law_draw", "_law_draw", defArgs (top 56), defBody (top 56), defScope (top 56), [], []⟩
  N := n27
  ps := [("_law_stream_here" : PySem.Str), ("_law_many" : PySem.Str)]
  d0 := rfl
  k0 := rfl
  sc := ⟨by kernel_rfl, by kernel_rfl, by kernel_rfl, by decide +kernel, by kernel_rfl, by decide +kernel, by decide +kernel⟩
  bd := fun _ _ _ _ _ _ us hl => match us, hl with | [_, _], _ => rfl
def n28 : List Str := [("_law_stream_here" : PySem.Str), ("_law_rows" : PySem.Str)]
def f28 : FnI where
  d := ⟨("_law_word", none), "_law_word", "_law_word", defArgs (top 57), defBody (top 57), defScope (top 57), [], []⟩
  N := n28
  ps := [("_law_stream_here" : PySem.Str)]
  d0 := rfl
  k0 := rfl
  sc := ⟨by kernel_rfl, by kernel_rfl, by kernel_rfl, by decide +kernel, by kernel_rfl, by decide +kernel, by decide +kernel⟩
  bd := fun _ _ _ _ _ _ us hl => match us, hl with | [_], _ => rfl
def n29 : List Str := [("_law_number" : PySem.Str)]
def f29 : FnI where
  d := ⟨("_law_wrapped", none), "_law_wrapped", "_law_wrapped", defArgs (top 58), defBody (top 58), defScope (top 58), [], []⟩
  N := n29
  ps := [("_law_number" : PySem.Str)]
  d0 := rfl
  k0 := rfl
  sc := ⟨by kernel_rfl, by kernel_rfl, by kernel_rfl, by decide +kernel, by kernel_rfl, by decide +kernel, by decide +kernel⟩
  bd := fun _ _ _ _ _ _ us hl => match us, hl with | [_], _ => rfl
def n30 : List Str := [("_law_op" : PySem.Str), ("_law_a" : PySem.Str), ("_law_b" : PySem.Str), ("_law_total" : PySem.Str), ("_law_place" : PySem.Str), ("_law_k" : PySem.Str), ("_law_one" : PySem.Str), ("_law_two" : PySem.Str), ("_law_chosen" : PySem.Str)]
def f30 : FnI where
  d := ⟨("_law_bits", none), "_law_bits", "_law_bits", defArgs (top 59), defBody (top 59), defScope (top 59), [], []⟩
  N := n30
  ps := [("_law_op" : PySem.Str), ("_law_a" : PySem.Str), ("_law_b" : PySem.Str)]
  d0 := rfl
  k0 := rfl
  sc := ⟨by kernel_rfl, by kernel_rfl, by kernel_rfl, by decide +kernel, by kernel_rfl, by decide +kernel, by decide +kernel⟩
  bd := fun _ _ _ _ _ _ us hl => match us, hl with | [_, _, _], _ => rfl
def n31 : List Str := [("_law_op" : PySem.Str), ("_law_a" : PySem.Str), ("_law_b" : PySem.Str), ("_law_k" : PySem.Str)]
def f31 : FnI where
  d := ⟨("_law_shifted", none), "_law_shifted", "_law_shifted", defArgs (top 60), defBody (top 60), defScope (top 60), [], []⟩
  N := n31
  ps := [("_law_op" : PySem.Str), ("_law_a" : PySem.Str), ("_law_b" : PySem.Str)]
  d0 := rfl
  k0 := rfl
  sc := ⟨by kernel_rfl, by kernel_rfl, by kernel_rfl, by decide +kernel, by kernel_rfl, by decide +kernel, by decide +kernel⟩
  bd := fun _ _ _ _ _ _ us hl => match us, hl with | [_, _, _], _ => rfl
def n32 : List Str := [("_law_op" : PySem.Str), ("_law_a" : PySem.Str), ("_law_b" : PySem.Str), ("_law_found" : PySem.Str), ("_law_rows" : PySem.Str)]
def f32 : FnI where
  d := ⟨("_law_binary", none), "_law_binary", "_law_binary", defArgs (top 61), defBody (top 61), defScope (top 61), [], []⟩
  N := n32
  ps := [("_law_op" : PySem.Str), ("_law_a" : PySem.Str), ("_law_b" : PySem.Str)]
  d0 := rfl
  k0 := rfl
  sc := ⟨by kernel_rfl, by kernel_rfl, by kernel_rfl, by decide +kernel, by kernel_rfl, by decide +kernel, by decide +kernel⟩
  bd := fun _ _ _ _ _ _ us hl => match us, hl with | [_, _, _], _ => rfl
def n33 : List Str := [("_law_op" : PySem.Str), ("_law_a" : PySem.Str)]
def f33 : FnI where
  d := ⟨("_law_unary", none), "_law_unary", "_law_unary", defArgs (top 62), defBody (top 62), defScope (top 62), [], []⟩
  N := n33
  ps := [("_law_op" : PySem.Str), ("_law_a" : PySem.Str)]
  d0 := rfl
  k0 := rfl
  sc := ⟨by kernel_rfl, by kernel_rfl, by kernel_rfl, by decide +kernel, by kernel_rfl, by decide +kernel, by decide +kernel⟩
  bd := fun _ _ _ _ _ _ us hl => match us, hl with | [_, _], _ => rfl
def n34 : List Str := [("_law_stream_here" : PySem.Str)]
def f34 : FnI where
  d := ⟨("_law_register", none), "_law_register", "_law_register", defArgs (top 63), defBody (top 63), defScope (top 63), [], []⟩
  N := n34
  ps := [("_law_stream_here" : PySem.Str)]
  d0 := rfl
  k0 := rfl
  sc := ⟨by kernel_rfl, by kernel_rfl, by kernel_rfl, by decide +kernel, by kernel_rfl, by decide +kernel, by decide +kernel⟩
  bd := fun _ _ _ _ _ _ us hl => match us, hl with | [_], _ => rfl
def n35 : List Str := [("_law_stream_here" : PySem.Str), ("_law_local" : PySem.Str), ("_law_pick" : PySem.Str), ("_law_d" : PySem.Str), ("_law_r" : PySem.Str), ("_law_ops" : PySem.Str)]
def f35 : FnI where
  d := ⟨("_law_plain_instruction", none), "_law_plain_instruction", "_law_plain_instruction", defArgs (top 64), defBody (top 64), defScope (top 64), [], []⟩
  N := n35
  ps := [("_law_stream_here" : PySem.Str), ("_law_local" : PySem.Str)]
  d0 := rfl
  k0 := rfl
  sc := ⟨by kernel_rfl, by kernel_rfl, by kernel_rfl, by decide +kernel, by kernel_rfl, by decide +kernel, by decide +kernel⟩
  bd := fun _ _ _ _ _ _ us hl => match us, hl with | [_, _], _ => rfl
def n36 : List Str := [("_law_stream_here" : PySem.Str), ("_law_many" : PySem.Str), ("_law_local" : PySem.Str), ("_law_pick" : PySem.Str), ("_law_r" : PySem.Str), ("_law_array" : PySem.Str), ("_law_op" : PySem.Str)]
def f36 : FnI where
  d := ⟨("_law_instruction", none), "_law_instruction", "_law_instruction", defArgs (top 65), defBody (top 65), defScope (top 65), [], []⟩
  N := n36
  ps := [("_law_stream_here" : PySem.Str), ("_law_many" : PySem.Str), ("_law_local" : PySem.Str)]
  d0 := rfl
  k0 := rfl
  sc := ⟨by kernel_rfl, by kernel_rfl, by kernel_rfl, by decide +kernel, by kernel_rfl, by decide +kernel, by decide +kernel⟩
  bd := fun _ _ _ _ _ _ us hl => match us, hl with | [_, _, _], _ => rfl
def n37 : List Str := [("_law_stream_here" : PySem.Str), ("_law_many" : PySem.Str), ("_law_local" : PySem.Str), ("_law_rows" : PySem.Str), ("_law_k" : PySem.Str), ("_law_params" : PySem.Str)]
def f37 : FnI where
  d := ⟨("_law_code", none), "_law_code", "_law_code", defArgs (top 66), defBody (top 66), defScope (top 66), [], []⟩
  N := n37
  ps := [("_law_stream_here" : PySem.Str)]
  d0 := rfl
  k0 := rfl
  sc := ⟨by kernel_rfl, by kernel_rfl, by kernel_rfl, by decide +kernel, by kernel_rfl, by decide +kernel, by decide +kernel⟩
  bd := fun _ _ _ _ _ _ us hl => match us, hl with | [_], _ => rfl
def n38 : List Str := [("_law_stream_here" : PySem.Str), ("_law_row" : PySem.Str), ("_law_buffers" : PySem.Str), ("_law_many" : PySem.Str), ("_law_arguments" : PySem.Str), ("_law_block" : PySem.Str), ("_law_k" : PySem.Str)]
def f38 : FnI where
  d := ⟨("_law_started", none), "_law_started", "_law_started", defArgs (top 67), defBody (top 67), defScope (top 67), [], []⟩
  N := n38
  ps := [("_law_stream_here" : PySem.Str)]
  d0 := rfl
  k0 := rfl
  sc := ⟨by kernel_rfl, by kernel_rfl, by kernel_rfl, by decide +kernel, by kernel_rfl, by decide +kernel, by decide +kernel⟩
  bd := fun _ _ _ _ _ _ us hl => match us, hl with | [_], _ => rfl
def n39 : List Str := [("_law_code_here" : PySem.Str)]
def f39 : FnI where
  d := ⟨("_law_first", none), "_law_first", "_law_first", defArgs (top 68), defBody (top 68), defScope (top 68), [], []⟩
  N := n39
  ps := [("_law_code_here" : PySem.Str)]
  d0 := rfl
  k0 := rfl
  sc := ⟨by kernel_rfl, by kernel_rfl, by kernel_rfl, by decide +kernel, by kernel_rfl, by decide +kernel, by decide +kernel⟩
  bd := fun _ _ _ _ _ _ us hl => match us, hl with | [_], _ => rfl
def n40 : List Str := [("_law_code_here" : PySem.Str), ("_law_lane" : PySem.Str), ("_law_row" : PySem.Str), ("_law_words" : PySem.Str)]
def f40 : FnI where
  d := ⟨("_law_request", none), "_law_request", "_law_request", defArgs (top 69), defBody (top 69), defScope (top 69), [], []⟩
  N := n40
  ps := [("_law_code_here" : PySem.Str), ("_law_lane" : PySem.Str)]
  d0 := rfl
  k0 := rfl
  sc := ⟨by kernel_rfl, by kernel_rfl, by kernel_rfl, by decide +kernel, by kernel_rfl, by decide +kernel, by decide +kernel⟩
  bd := fun _ _ _ _ _ _ us hl => match us, hl with | [_, _], _ => rfl
def n41 : List Str := [("_law_row" : PySem.Str), ("_law_lane" : PySem.Str), ("_law_launch" : PySem.Str), ("_law_thread" : PySem.Str), ("_law_word_here" : PySem.Str), ("_law_words" : PySem.Str), ("_law_block" : PySem.Str), ("_law_rows" : PySem.Str)]
def f41 : FnI where
  d := ⟨("_law_written", none), "_law_written", "_law_written", defArgs (top 70), defBody (top 70), defScope (top 70), [], []⟩
  N := n41
  ps := [("_law_row" : PySem.Str), ("_law_lane" : PySem.Str), ("_law_launch" : PySem.Str), ("_law_thread" : PySem.Str), ("_law_word_here" : PySem.Str)]
  d0 := rfl
  k0 := rfl
  sc := ⟨by kernel_rfl, by kernel_rfl, by kernel_rfl, by decide +kernel, by kernel_rfl, by decide +kernel, by decide +kernel⟩
  bd := fun _ _ _ _ _ _ us hl => match us, hl with | [_, _, _, _, _], _ => rfl
def n42 : List Str := [("_law_code_here" : PySem.Str), ("_law_launch" : PySem.Str), ("_law_thread" : PySem.Str), ("_law_lane" : PySem.Str), ("_law_word_here" : PySem.Str), ("_law_row" : PySem.Str), ("_law_words" : PySem.Str), ("_law_cells" : PySem.Str), ("_law_at" : PySem.Str)]
def f42 : FnI where
  d := ⟨("_law_behind", none), "_law_behind", "_law_behind", defArgs (top 71), defBody (top 71), defScope (top 71), [], []⟩
  N := n42
  ps := [("_law_code_here" : PySem.Str), ("_law_launch" : PySem.Str), ("_law_thread" : PySem.Str), ("_law_lane" : PySem.Str), ("_law_word_here" : PySem.Str)]
  d0 := rfl
  k0 := rfl
  sc := ⟨by kernel_rfl, by kernel_rfl, by kernel_rfl, by decide +kernel, by kernel_rfl, by decide +kernel, by decide +kernel⟩
  bd := fun _ _ _ _ _ _ us hl => match us, hl with | [_, _, _, _, _], _ => rfl
def nlaw : List Str := [("_law_script" : PySem.Str), ("_law_stream_here" : PySem.Str), ("_law_code_here" : PySem.Str), ("_law_launch" : PySem.Str), ("_law_lane" : PySem.Str), ("_law_thread" : PySem.Str), ("_law_k" : PySem.Str), ("_law_word_here" : PySem.Str), ("_law_due" : PySem.Str), ("_law_actual" : PySem.Str), ("_law_part" : PySem.Str)]
def flaw : FnI where
  d := ⟨("law", none), "law", "law", defArgs (top 72), defBody (top 72), defScope (top 72), [], []⟩
  N := nlaw
  ps := [("_law_script" : PySem.Str)]
  d0 := rfl
  k0 := rfl
  sc := ⟨by kernel_rfl, by kernel_rfl, by kernel_rfl, by decide +kernel, by kernel_rfl, by decide +kernel, by decide +kernel⟩
  bd := fun _ _ _ _ _ _ us hl => match us, hl with | [_], _ => rfl
def cls : List (Str × Cl) := []
def gl0 : List (Str × GV) := [("BadCode", .exc 1),
  ("DIGITS", .val (.str [48, 49, 50, 51, 52, 53, 54, 55, 56, 57])),
  ("FIRST_SHARED", .val (.int (6))),
  ("FORMS", .val (.fd [[119, 111, 114, 100], [112, 97, 114, 97, 109], [115, 112, 101, 99, 105, 97, 108], [99, 111, 112, 121], [117, 110, 97, 114, 121], [98, 105, 110, 97, 114, 121], [108, 111, 97, 100], [115, 116, 111, 114, 101], [97, 116, 111, 109, 105, 99], [98, 97, 114, 114, 105, 101, 114], [99, 111, 108, 108, 101, 99, 116], [103, 101, 116], [107, 101, 101, 112], [106, 117, 109, 112], [101, 120, 105, 116], [98, 114, 97, 110, 99, 104]] [(.str [114, 110]), (.str [114, 112]), (.str [114, 115]), (.str [114, 114]), (.str [117, 114, 114]), (.str [98, 114, 114, 114]), (.str [114, 97, 114]), (.str [97, 114, 114]), (.str [102, 97, 114, 114]), (.str [109]), (.str [102, 114, 114, 109]), (.str [114, 108]), (.str [108, 114]), (.str [107]), (.str []), (.str [114, 107, 106])])),
  ("GREATEST", .val (.int (2147483647))),
  ("LEAST", .val (.int (-2147483648))),
  ("MODULUS", .val (.int (4294967296))),
  ("MOST_CODE", .val (.int (2000))),
  ("MOST_LOCAL", .val (.int (64))),
  ("MOST_NAME", .val (.int (12))),
  ("MOST_NUMBER", .val (.int (99))),
  ("MOST_PARAMS", .val (.int (6))),
  ("MOST_SHARED", .val (.int (3))),
  ("MOST_SIZE", .val (.int (16))),
  ("REGISTERS", .val (.int (8))),
  ("SMALL", .val (.str [97, 98, 99, 100, 101, 102, 103, 104, 105, 106, 107, 108, 109, 110, 111, 112, 113, 114, 115, 116, 117, 118, 119, 120, 121, 122])),
  ("WORDS", .val (.fd [[115], [117], [98], [102]] [(.tup [(.str [116, 105, 100]), (.str [98, 105, 100]), (.str [100, 105, 109]), (.str [103, 114, 105, 100])]), (.tup [(.str [110, 101, 103]), (.str [110, 111, 116]), (.str [122, 101, 114, 111])]), (.tup [(.str [97, 100, 100]), (.str [115, 117, 98]), (.str [109, 117, 108]), (.str [100, 105, 118]), (.str [114, 101, 109]), (.str [97, 110, 100]), (.str [111, 114]), (.str [120, 111, 114]), (.str [115, 104, 108]), (.str [115, 104, 114]), (.str [108, 116]), (.str [108, 101]), (.str [101, 113]), (.str [110, 101]), (.str [109, 105, 110]), (.str [109, 97, 120])]), (.tup [(.str [97, 100, 100]), (.str [109, 105, 110]), (.str [109, 97, 120]), (.str [97, 110, 100]), (.str [111, 114]), (.str [120, 111, 114])])])),
  ("_law_behind", .fn 42),
  ("_law_binary", .fn 32),
  ("_law_bits", .fn 30),
  ("_law_code", .fn 37),
  ("_law_draw", .fn 27),
  ("_law_first", .fn 39),
  ("_law_instruction", .fn 36),
  ("_law_plain_instruction", .fn 35),
  ("_law_register", .fn 34),
  ("_law_request", .fn 40),
  ("_law_shifted", .fn 31),
  ("_law_started", .fn 38),
  ("_law_stream", .fn 26)]
def gl1 : List (Str × GV) := [("_law_unary", .fn 33),
  ("_law_word", .fn 28),
  ("_law_wrapped", .fn 29),
  ("_law_written", .fn 41),
  ("abs", .blt .abs),
  ("all", .blt .all),
  ("any", .blt .any),
  ("are_params", .fn 18),
  ("are_shared", .fn 19),
  ("arithmetic", .fn 4),
  ("behind", .fn 14),
  ("binary", .fn 7),
  ("bits", .fn 5),
  ("bool", .ty .bool),
  ("changed", .fn 12),
  ("check_code", .fn 25),
  ("compared", .fn 6),
  ("divided", .fn 3),
  ("first_lane", .fn 10),
  ("have_names", .fn 20),
  ("int", .blt .int),
  ("is_array", .fn 22),
  ("is_below", .fn 21),
  ("is_instruction", .fn 24),
  ("is_name", .fn 15),
  ("is_one_of", .fn 16),
  ("is_pair", .fn 17),
  ("is_part", .fn 23),
  ("is_whole", .fn 0),
  ("is_word", .fn 1)]
def gl2 : List (Str × GV) := [("isinstance", .blt .isinstance),
  ("len", .blt .len),
  ("list", .blt .list),
  ("max", .blt .max),
  ("min", .blt .min),
  ("range", .blt .range),
  ("request", .fn 11),
  ("result", .fn 13),
  ("set", .blt .set),
  ("special", .fn 9),
  ("str", .ty .str),
  ("tuple", .blt .tuple),
  ("unary", .fn 8),
  ("wrapped", .fn 2)]
def gl : List (Str × GV) := gl0 ++ gl1 ++ gl2
def g : Pg where
  fns := [f0, f1, f2, f3, f4, f5, f6, f7, f8, f9, f10, f11, f12, f13, f14, f15, f16, f17, f18, f19, f20, f21, f22, f23, f24, f25, f26, f27, f28, f29, f30, f31, f32, f33, f34, f35, f36, f37, f38, f39, f40, f41, f42]
  cls := cls
  exs := [("DrawloomError" : PySem.Str), ("BadCode" : PySem.Str)]
  gl := gl
  fld := []
  sup := []
/-! is_whole -/
def Fis_whole_0 : S := (.ret (.and (.isi (.var 0) .int) (.not (.isi (.var 0) .bool))))
def Fis_whole_t0 : SL := .cons Fis_whole_0 .nil
def b0 : SL := Fis_whole_t0
/-! is_word -/
def Fis_word_0 : S := (.ret (.and (.call 0 (.cons (.var 0) .nil)) (.chain .le .le (.cst (.int (-2147483648))) (.var 0) (.cst (.int (2147483647))))))
def Fis_word_t0 : SL := .cons Fis_word_0 .nil
def b1 : SL := Fis_word_t0
/-! wrapped -/
def Fwrapped_0 : S := (.asg (.nm 1) (.bop .mod (.var 0) (.cst (.int (4294967296)))))
def Fwrapped_1a0 : S := (.ret (.bop .sub (.var 1) (.cst (.int (4294967296)))))
def Fwrapped_1a_t0 : SL := .cons Fwrapped_1a0 .nil
def Fwrapped_1 : S := (.ifs (.cmp .gt (.var 1) (.cst (.int (2147483647))))
 Fwrapped_1a_t0
 .nil)
def Fwrapped_2 : S := (.ret (.var 1))
def Fwrapped_t2 : SL := .cons Fwrapped_2 .nil
def Fwrapped_t1 : SL := .cons Fwrapped_1 Fwrapped_t2
def Fwrapped_t0 : SL := .cons Fwrapped_0 Fwrapped_t1
def b2 : SL := Fwrapped_t0
/-! divided -/
def Fdivided_0a0 : S := (.ret (.cst (.int (0))))
def Fdivided_0a_t0 : SL := .cons Fdivided_0a0 .nil
def Fdivided_0 : S := (.ifs (.cmp .eq (.var 1) (.cst (.int (0))))
 Fdivided_0a_t0
 .nil)
def Fdivided_1 : S := (.asg (.nm 2) (.bop .fdiv (.b1 .abs (.var 0)) (.b1 .abs (.var 1))))
def Fdivided_2a0 : S := (.ret (.neg (.var 2)))
def Fdivided_2a_t0 : SL := .cons Fdivided_2a0 .nil
def Fdivided_2 : S := (.ifs (.cmp .ne (.cmp .lt (.var 0) (.cst (.int (0)))) (.cmp .lt (.var 1) (.cst (.int (0)))))
 Fdivided_2a_t0
 .nil)
def Fdivided_3 : S := (.ret (.var 2))
def Fdivided_t3 : SL := .cons Fdivided_3 .nil
def Fdivided_t2 : SL := .cons Fdivided_2 Fdivided_t3
def Fdivided_t1 : SL := .cons Fdivided_1 Fdivided_t2
def Fdivided_t0 : SL := .cons Fdivided_0 Fdivided_t1
def b3 : SL := Fdivided_t0
/-! arithmetic -/
def Farithmetic_0a0 : S := (.ret (.bop .add (.var 1) (.var 2)))
def Farithmetic_0a_t0 : SL := .cons Farithmetic_0a0 .nil
def Farithmetic_0 : S := (.ifs (.cmp .eq (.var 0) (.cst (.str [97, 100, 100])))
 Farithmetic_0a_t0
 .nil)
def Farithmetic_1a0 : S := (.ret (.bop .sub (.var 1) (.var 2)))
def Farithmetic_1a_t0 : SL := .cons Farithmetic_1a0 .nil
def Farithmetic_1 : S := (.ifs (.cmp .eq (.var 0) (.cst (.str [115, 117, 98])))
 Farithmetic_1a_t0
 .nil)
def Farithmetic_2a0 : S := (.ret (.bop .mul (.var 1) (.var 2)))
def Farithmetic_2a_t0 : SL := .cons Farithmetic_2a0 .nil
def Farithmetic_2 : S := (.ifs (.cmp .eq (.var 0) (.cst (.str [109, 117, 108])))
 Farithmetic_2a_t0
 .nil)
def Farithmetic_3a0 : S := (.ret (.call 3 (.cons (.var 1) (.cons (.var 2) .nil))))
def Farithmetic_3a_t0 : SL := .cons Farithmetic_3a0 .nil
def Farithmetic_3 : S := (.ifs (.cmp .eq (.var 0) (.cst (.str [100, 105, 118])))
 Farithmetic_3a_t0
 .nil)
def Farithmetic_4a0a0 : S := (.ret (.cst (.int (0))))
def Farithmetic_4a0a_t0 : SL := .cons Farithmetic_4a0a0 .nil
def Farithmetic_4a0 : S := (.ifs (.cmp .eq (.var 2) (.cst (.int (0))))
 Farithmetic_4a0a_t0
 .nil)
def Farithmetic_4a1 : S := (.ret (.bop .sub (.var 1) (.bop .mul (.call 3 (.cons (.var 1) (.cons (.var 2) .nil))) (.var 2))))
def Farithmetic_4a_t1 : SL := .cons Farithmetic_4a1 .nil
def Farithmetic_4a_t0 : SL := .cons Farithmetic_4a0 Farithmetic_4a_t1
def Farithmetic_4 : S := (.ifs (.cmp .eq (.var 0) (.cst (.str [114, 101, 109])))
 Farithmetic_4a_t0
 .nil)
def Farithmetic_5 : S := (.ret (.cst .non))
def Farithmetic_t5 : SL := .cons Farithmetic_5 .nil
def Farithmetic_t4 : SL := .cons Farithmetic_4 Farithmetic_t5
def Farithmetic_t3 : SL := .cons Farithmetic_3 Farithmetic_t4
def Farithmetic_t2 : SL := .cons Farithmetic_2 Farithmetic_t3
def Farithmetic_t1 : SL := .cons Farithmetic_1 Farithmetic_t2
def Farithmetic_t0 : SL := .cons Farithmetic_0 Farithmetic_t1
def b4 : SL := Farithmetic_t0
/-! bits -/
def Fbits_0a0 : S := (.ret (.bop .band (.var 1) (.var 2)))
def Fbits_0a_t0 : SL := .cons Fbits_0a0 .nil
def Fbits_0 : S := (.ifs (.cmp .eq (.var 0) (.cst (.str [97, 110, 100])))
 Fbits_0a_t0
 .nil)
def Fbits_1a0 : S := (.ret (.bop .bor (.var 1) (.var 2)))
def Fbits_1a_t0 : SL := .cons Fbits_1a0 .nil
def Fbits_1 : S := (.ifs (.cmp .eq (.var 0) (.cst (.str [111, 114])))
 Fbits_1a_t0
 .nil)
def Fbits_2a0 : S := (.ret (.bop .bxor (.var 1) (.var 2)))
def Fbits_2a_t0 : SL := .cons Fbits_2a0 .nil
def Fbits_2 : S := (.ifs (.cmp .eq (.var 0) (.cst (.str [120, 111, 114])))
 Fbits_2a_t0
 .nil)
def Fbits_3a0 : S := (.ret (.bop .shl (.var 1) (.bop .mod (.var 2) (.cst (.int (32))))))
def Fbits_3a_t0 : SL := .cons Fbits_3a0 .nil
def Fbits_3 : S := (.ifs (.cmp .eq (.var 0) (.cst (.str [115, 104, 108])))
 Fbits_3a_t0
 .nil)
def Fbits_4a0 : S := (.ret (.bop .shr (.var 1) (.bop .mod (.var 2) (.cst (.int (32))))))
def Fbits_4a_t0 : SL := .cons Fbits_4a0 .nil
def Fbits_4 : S := (.ifs (.cmp .eq (.var 0) (.cst (.str [115, 104, 114])))
 Fbits_4a_t0
 .nil)
def Fbits_5 : S := (.ret (.cst .non))
def Fbits_t5 : SL := .cons Fbits_5 .nil
def Fbits_t4 : SL := .cons Fbits_4 Fbits_t5
def Fbits_t3 : SL := .cons Fbits_3 Fbits_t4
def Fbits_t2 : SL := .cons Fbits_2 Fbits_t3
def Fbits_t1 : SL := .cons Fbits_1 Fbits_t2
def Fbits_t0 : SL := .cons Fbits_0 Fbits_t1
def b5 : SL := Fbits_t0
/-! compared -/
def Fcompared_0a0 : S := (.ret (.b1 .int (.cmp .lt (.var 1) (.var 2))))
def Fcompared_0a_t0 : SL := .cons Fcompared_0a0 .nil
def Fcompared_0 : S := (.ifs (.cmp .eq (.var 0) (.cst (.str [108, 116])))
 Fcompared_0a_t0
 .nil)
def Fcompared_1a0 : S := (.ret (.b1 .int (.cmp .le (.var 1) (.var 2))))
def Fcompared_1a_t0 : SL := .cons Fcompared_1a0 .nil
def Fcompared_1 : S := (.ifs (.cmp .eq (.var 0) (.cst (.str [108, 101])))
 Fcompared_1a_t0
 .nil)
def Fcompared_2a0 : S := (.ret (.b1 .int (.cmp .eq (.var 1) (.var 2))))
def Fcompared_2a_t0 : SL := .cons Fcompared_2a0 .nil
def Fcompared_2 : S := (.ifs (.cmp .eq (.var 0) (.cst (.str [101, 113])))
 Fcompared_2a_t0
 .nil)
def Fcompared_3a0 : S := (.ret (.b1 .int (.cmp .ne (.var 1) (.var 2))))
def Fcompared_3a_t0 : SL := .cons Fcompared_3a0 .nil
def Fcompared_3 : S := (.ifs (.cmp .eq (.var 0) (.cst (.str [110, 101])))
 Fcompared_3a_t0
 .nil)
def Fcompared_4a0 : S := (.ret (.min2 (.var 1) (.var 2)))
def Fcompared_4a_t0 : SL := .cons Fcompared_4a0 .nil
def Fcompared_4 : S := (.ifs (.cmp .eq (.var 0) (.cst (.str [109, 105, 110])))
 Fcompared_4a_t0
 .nil)
def Fcompared_5 : S := (.ret (.max2 (.var 1) (.var 2)))
def Fcompared_t5 : SL := .cons Fcompared_5 .nil
def Fcompared_t4 : SL := .cons Fcompared_4 Fcompared_t5
def Fcompared_t3 : SL := .cons Fcompared_3 Fcompared_t4
def Fcompared_t2 : SL := .cons Fcompared_2 Fcompared_t3
def Fcompared_t1 : SL := .cons Fcompared_1 Fcompared_t2
def Fcompared_t0 : SL := .cons Fcompared_0 Fcompared_t1
def b6 : SL := Fcompared_t0
/-! binary -/
def Fbinary_0 : S := (.asg (.nm 3) (.call 4 (.cons (.var 0) (.cons (.var 1) (.cons (.var 2) .nil)))))
def Fbinary_1a0 : S := (.asg (.nm 3) (.call 5 (.cons (.var 0) (.cons (.var 1) (.cons (.var 2) .nil)))))
def Fbinary_1a_t0 : SL := .cons Fbinary_1a0 .nil
def Fbinary_1 : S := (.ifs (.cmp .is_ (.var 3) (.cst .non))
 Fbinary_1a_t0
 .nil)
def Fbinary_2a0 : S := (.asg (.nm 3) (.call 6 (.cons (.var 0) (.cons (.var 1) (.cons (.var 2) .nil)))))
def Fbinary_2a_t0 : SL := .cons Fbinary_2a0 .nil
def Fbinary_2 : S := (.ifs (.cmp .is_ (.var 3) (.cst .non))
 Fbinary_2a_t0
 .nil)
def Fbinary_3 : S := (.ret (.call 2 (.cons (.var 3) .nil)))
def Fbinary_t3 : SL := .cons Fbinary_3 .nil
def Fbinary_t2 : SL := .cons Fbinary_2 Fbinary_t3
def Fbinary_t1 : SL := .cons Fbinary_1 Fbinary_t2
def Fbinary_t0 : SL := .cons Fbinary_0 Fbinary_t1
def b7 : SL := Fbinary_t0
/-! unary -/
def Funary_0a0 : S := (.ret (.call 2 (.cons (.neg (.var 1)) .nil)))
def Funary_0a_t0 : SL := .cons Funary_0a0 .nil
def Funary_0 : S := (.ifs (.cmp .eq (.var 0) (.cst (.str [110, 101, 103])))
 Funary_0a_t0
 .nil)
def Funary_1a0 : S := (.ret (.call 2 (.cons (.bop .sub (.neg (.var 1)) (.cst (.int (1)))) .nil)))
def Funary_1a_t0 : SL := .cons Funary_1a0 .nil
def Funary_1 : S := (.ifs (.cmp .eq (.var 0) (.cst (.str [110, 111, 116])))
 Funary_1a_t0
 .nil)
def Funary_2 : S := (.ret (.b1 .int (.cmp .eq (.var 1) (.cst (.int (0))))))
def Funary_t2 : SL := .cons Funary_2 .nil
def Funary_t1 : SL := .cons Funary_1 Funary_t2
def Funary_t0 : SL := .cons Funary_0 Funary_t1
def b8 : SL := Funary_t0
/-! special -/
def Fspecial_0 : S := (.asg (.tp [3, 4, 5, 5]) (.var 2))
def Fspecial_1a0 : S := (.ret (.bop .mod (.var 1) (.var 4)))
def Fspecial_1a_t0 : SL := .cons Fspecial_1a0 .nil
def Fspecial_1 : S := (.ifs (.cmp .eq (.var 0) (.cst (.str [116, 105, 100])))
 Fspecial_1a_t0
 .nil)
def Fspecial_2a0 : S := (.ret (.bop .fdiv (.var 1) (.var 4)))
def Fspecial_2a_t0 : SL := .cons Fspecial_2a0 .nil
def Fspecial_2 : S := (.ifs (.cmp .eq (.var 0) (.cst (.str [98, 105, 100])))
 Fspecial_2a_t0
 .nil)
def Fspecial_3a0 : S := (.ret (.var 4))
def Fspecial_3a_t0 : SL := .cons Fspecial_3a0 .nil
def Fspecial_3 : S := (.ifs (.cmp .eq (.var 0) (.cst (.str [100, 105, 109])))
 Fspecial_3a_t0
 .nil)
def Fspecial_4 : S := (.ret (.var 3))
def Fspecial_t4 : SL := .cons Fspecial_4 .nil
def Fspecial_t3 : SL := .cons Fspecial_3 Fspecial_t4
def Fspecial_t2 : SL := .cons Fspecial_2 Fspecial_t3
def Fspecial_t1 : SL := .cons Fspecial_1 Fspecial_t2
def Fspecial_t0 : SL := .cons Fspecial_0 Fspecial_t1
def b9 : SL := Fspecial_t0
/-! first_lane -/
def Ffirst_lane_0 : S := (.ret (.tup (.cons (.cst (.int (0))) (.cons (.bop .mul (.tup (.cons (.cst (.int (0))) .nil)) (.cst (.int (8)))) (.cons (.bop .mul (.tup (.cons (.cst (.int (0))) .nil)) (.idx (.var 0) (.cst (.int (2))))) .nil)))))
def Ffirst_lane_t0 : SL := .cons Ffirst_lane_0 .nil
def b10 : SL := Ffirst_lane_t0
/-! request -/
def Frequest_0 : S := (.asg (.tp [2, 3, 4]) (.var 1))
def Frequest_1 : S := (.asg (.nm 5) (.idx (.idx (.var 0) (.cst (.int (3)))) (.var 2)))
def Frequest_2 : S := (.asg (.nm 6) (.idx (.var 5) (.cst (.int (0)))))
def Frequest_3a0 : S := (.ret (.tup (.cons (.cst (.str [108, 111, 97, 100])) (.cons (.idx (.var 5) (.cst (.int (2)))) (.cons (.idx (.var 3) (.idx (.var 5) (.cst (.int (3))))) .nil)))))
def Frequest_3a_t0 : SL := .cons Frequest_3a0 .nil
def Frequest_3 : S := (.ifs (.cmp .eq (.var 6) (.cst (.str [108, 111, 97, 100])))
 Frequest_3a_t0
 .nil)
def Frequest_4a0 : S := (.ret (.tup (.cons (.cst (.str [115, 116, 111, 114, 101])) (.cons (.idx (.var 5) (.cst (.int (1)))) (.cons (.idx (.var 3) (.idx (.var 5) (.cst (.int (2))))) (.cons (.idx (.var 3) (.idx (.var 5) (.cst (.int (3))))) .nil))))))
def Frequest_4a_t0 : SL := .cons Frequest_4a0 .nil
def Frequest_4 : S := (.ifs (.cmp .eq (.var 6) (.cst (.str [115, 116, 111, 114, 101])))
 Frequest_4a_t0
 .nil)
def Frequest_5a0 : S := (.ret (.tup (.cons (.cst (.str [97, 116, 111, 109, 105, 99])) (.cons (.idx (.var 5) (.cst (.int (1)))) (.cons (.idx (.var 5) (.cst (.int (2)))) (.cons (.idx (.var 3) (.idx (.var 5) (.cst (.int (3))))) (.cons (.idx (.var 3) (.idx (.var 5) (.cst (.int (4))))) .nil)))))))
def Frequest_5a_t0 : SL := .cons Frequest_5a0 .nil
def Frequest_5 : S := (.ifs (.cmp .eq (.var 6) (.cst (.str [97, 116, 111, 109, 105, 99])))
 Frequest_5a_t0
 .nil)
def Frequest_6a0 : S := (.ret (.var 5))
def Frequest_6a_t0 : SL := .cons Frequest_6a0 .nil
def Frequest_6 : S := (.ifs (.cmp .in_ (.var 6) (.tup (.cons (.cst (.str [98, 97, 114, 114, 105, 101, 114])) (.cons (.cst (.str [101, 120, 105, 116])) .nil))))
 Frequest_6a_t0
 .nil)
def Frequest_7a0 : S := (.ret (.tup (.cons (.cst (.str [99, 111, 108, 108, 101, 99, 116])) (.cons (.idx (.var 5) (.cst (.int (1)))) (.cons (.idx (.var 3) (.idx (.var 5) (.cst (.int (3))))) (.cons (.idx (.var 5) (.cst (.int (4)))) .nil))))))
def Frequest_7a_t0 : SL := .cons Frequest_7a0 .nil
def Frequest_7 : S := (.ifs (.cmp .eq (.var 6) (.cst (.str [99, 111, 108, 108, 101, 99, 116])))
 Frequest_7a_t0
 .nil)
def Frequest_8 : S := (.ret (.tup (.cons (.cst (.str [110, 111, 110, 101])) .nil)))
def Frequest_t8 : SL := .cons Frequest_8 .nil
def Frequest_t7 : SL := .cons Frequest_7 Frequest_t8
def Frequest_t6 : SL := .cons Frequest_6 Frequest_t7
def Frequest_t5 : SL := .cons Frequest_5 Frequest_t6
def Frequest_t4 : SL := .cons Frequest_4 Frequest_t5
def Frequest_t3 : SL := .cons Frequest_3 Frequest_t4
def Frequest_t2 : SL := .cons Frequest_2 Frequest_t3
def Frequest_t1 : SL := .cons Frequest_1 Frequest_t2
def Frequest_t0 : SL := .cons Frequest_0 Frequest_t1
def b11 : SL := Frequest_t0
/-! changed -/
def Fchanged_0 : S := (.ret (.bop .add (.bop .add (.shi (.var 0) (.var 1)) (.tup (.cons (.var 2) .nil))) (.slo (.var 0) (.bop .add (.var 1) (.cst (.int (1)))))))
def Fchanged_t0 : SL := .cons Fchanged_0 .nil
def b12 : SL := Fchanged_t0
/-! result -/
def Fresult_0 : S := (.asg (.nm 5) (.idx (.var 0) (.cst (.int (0)))))
def Fresult_1 : S := (.asg (.nm 6) (.idx (.var 1) (.cst (.int (1)))))
def Fresult_2a0 : S := (.ret (.tup (.cons (.idx (.var 0) (.cst (.int (1)))) (.cons (.idx (.var 0) (.cst (.int (2)))) .nil))))
def Fresult_2a_t0 : SL := .cons Fresult_2a0 .nil
def Fresult_2 : S := (.ifs (.cmp .eq (.var 5) (.cst (.str [119, 111, 114, 100])))
 Fresult_2a_t0
 .nil)
def Fresult_3a0 : S := (.ret (.tup (.cons (.idx (.var 0) (.cst (.int (1)))) (.cons (.idx (.idx (.var 2) (.cst (.int (2)))) (.idx (.var 0) (.cst (.int (2))))) .nil))))
def Fresult_3a_t0 : SL := .cons Fresult_3a0 .nil
def Fresult_3 : S := (.ifs (.cmp .eq (.var 5) (.cst (.str [112, 97, 114, 97, 109])))
 Fresult_3a_t0
 .nil)
def Fresult_4a0 : S := (.ret (.tup (.cons (.idx (.var 0) (.cst (.int (1)))) (.cons (.call 9 (.cons (.idx (.var 0) (.cst (.int (2)))) (.cons (.var 3) (.cons (.var 2) .nil)))) .nil))))
def Fresult_4a_t0 : SL := .cons Fresult_4a0 .nil
def Fresult_4 : S := (.ifs (.cmp .eq (.var 5) (.cst (.str [115, 112, 101, 99, 105, 97, 108])))
 Fresult_4a_t0
 .nil)
def Fresult_5a0 : S := (.ret (.tup (.cons (.idx (.var 0) (.cst (.int (1)))) (.cons (.idx (.var 6) (.idx (.var 0) (.cst (.int (2))))) .nil))))
def Fresult_5a_t0 : SL := .cons Fresult_5a0 .nil
def Fresult_5 : S := (.ifs (.cmp .eq (.var 5) (.cst (.str [99, 111, 112, 121])))
 Fresult_5a_t0
 .nil)
def Fresult_6a0 : S := (.ret (.tup (.cons (.idx (.var 0) (.cst (.int (2)))) (.cons (.call 8 (.cons (.idx (.var 0) (.cst (.int (1)))) (.cons (.idx (.var 6) (.idx (.var 0) (.cst (.int (3))))) .nil))) .nil))))
def Fresult_6a_t0 : SL := .cons Fresult_6a0 .nil
def Fresult_6 : S := (.ifs (.cmp .eq (.var 5) (.cst (.str [117, 110, 97, 114, 121])))
 Fresult_6a_t0
 .nil)
def Fresult_7a0 : S := (.ret (.tup (.cons (.idx (.var 0) (.cst (.int (2)))) (.cons (.call 7 (.cons (.idx (.var 0) (.cst (.int (1)))) (.cons (.idx (.var 6) (.idx (.var 0) (.cst (.int (3))))) (.cons (.idx (.var 6) (.idx (.var 0) (.cst (.int (4))))) .nil)))) .nil))))
def Fresult_7a_t0 : SL := .cons Fresult_7a0 .nil
def Fresult_7 : S := (.ifs (.cmp .eq (.var 5) (.cst (.str [98, 105, 110, 97, 114, 121])))
 Fresult_7a_t0
 .nil)
def Fresult_8a0 : S := (.ret (.tup (.cons (.idx (.var 0) (.cst (.int (1)))) (.cons (.idx (.idx (.var 1) (.cst (.int (2)))) (.idx (.var 0) (.cst (.int (2))))) .nil))))
def Fresult_8a_t0 : SL := .cons Fresult_8a0 .nil
def Fresult_8 : S := (.ifs (.cmp .eq (.var 5) (.cst (.str [103, 101, 116])))
 Fresult_8a_t0
 .nil)
def Fresult_9a0 : S := (.ret (.tup (.cons (.idx (.var 0) (.cst (.int (1)))) (.cons (.var 4) .nil))))
def Fresult_9a_t0 : SL := .cons Fresult_9a0 .nil
def Fresult_9 : S := (.ifs (.cmp .eq (.var 5) (.cst (.str [108, 111, 97, 100])))
 Fresult_9a_t0
 .nil)
def Fresult_10a0 : S := (.ret (.tup (.cons (.idx (.var 0) (.cst (.int (2)))) (.cons (.var 4) .nil))))
def Fresult_10a_t0 : SL := .cons Fresult_10a0 .nil
def Fresult_10 : S := (.ifs (.cmp .eq (.var 5) (.cst (.str [99, 111, 108, 108, 101, 99, 116])))
 Fresult_10a_t0
 .nil)
def Fresult_11 : S := (.ret (.cst .non))
def Fresult_t11 : SL := .cons Fresult_11 .nil
def Fresult_t10 : SL := .cons Fresult_10 Fresult_t11
def Fresult_t9 : SL := .cons Fresult_9 Fresult_t10
def Fresult_t8 : SL := .cons Fresult_8 Fresult_t9
def Fresult_t7 : SL := .cons Fresult_7 Fresult_t8
def Fresult_t6 : SL := .cons Fresult_6 Fresult_t7
def Fresult_t5 : SL := .cons Fresult_5 Fresult_t6
def Fresult_t4 : SL := .cons Fresult_4 Fresult_t5
def Fresult_t3 : SL := .cons Fresult_3 Fresult_t4
def Fresult_t2 : SL := .cons Fresult_2 Fresult_t3
def Fresult_t1 : SL := .cons Fresult_1 Fresult_t2
def Fresult_t0 : SL := .cons Fresult_0 Fresult_t1
def b13 : SL := Fresult_t0
/-! behind -/
def Fbehind_0 : S := (.asg (.tp [5, 6, 7]) (.var 3))
def Fbehind_1 : S := (.asg (.nm 8) (.idx (.idx (.var 0) (.cst (.int (3)))) (.var 5)))
def Fbehind_2 : S := (.asg (.nm 9) (.idx (.var 8) (.cst (.int (0)))))
def Fbehind_3a0 : S := (.ret (.var 3))
def Fbehind_3a_t0 : SL := .cons Fbehind_3a0 .nil
def Fbehind_3 : S := (.ifs (.cmp .eq (.var 9) (.cst (.str [101, 120, 105, 116])))
 Fbehind_3a_t0
 .nil)
def Fbehind_4 : S := (.asg (.nm 10) (.bop .add (.var 5) (.cst (.int (1)))))
def Fbehind_5a0 : S := (.asg (.nm 10) (.idx (.var 8) (.cst (.int (1)))))
def Fbehind_5a_t0 : SL := .cons Fbehind_5a0 .nil
def Fbehind_5b0a0 : S := (.asg (.nm 10) (.idx (.var 8) (.cst (.int (2)))))
def Fbehind_5b0a_t0 : SL := .cons Fbehind_5b0a0 .nil
def Fbehind_5b0 : S := (.ifs (.and (.cmp .eq (.var 9) (.cst (.str [98, 114, 97, 110, 99, 104]))) (.cmp .ne (.idx (.var 6) (.idx (.var 8) (.cst (.int (1))))) (.cst (.int (0)))))
 Fbehind_5b0a_t0
 .nil)
def Fbehind_5b_t0 : SL := .cons Fbehind_5b0 .nil
def Fbehind_5 : S := (.ifs (.cmp .eq (.var 9) (.cst (.str [106, 117, 109, 112])))
 Fbehind_5a_t0
 Fbehind_5b_t0)
def Fbehind_6a0 : S := (.ret (.tup (.cons (.var 10) (.cons (.var 6) (.cons (.call 12 (.cons (.var 7) (.cons (.idx (.var 8) (.cst (.int (1)))) (.cons (.idx (.var 6) (.idx (.var 8) (.cst (.int (2))))) .nil)))) .nil)))))
def Fbehind_6a_t0 : SL := .cons Fbehind_6a0 .nil
def Fbehind_6 : S := (.ifs (.cmp .eq (.var 9) (.cst (.str [107, 101, 101, 112])))
 Fbehind_6a_t0
 .nil)
def Fbehind_7 : S := (.asg (.nm 11) (.call 13 (.cons (.var 8) (.cons (.var 3) (.cons (.var 1) (.cons (.var 2) (.cons (.var 4) .nil)))))))
def Fbehind_8a0 : S := (.asg (.nm 6) (.call 12 (.cons (.var 6) (.cons (.idx (.var 11) (.cst (.int (0)))) (.cons (.idx (.var 11) (.cst (.int (1)))) .nil)))))
def Fbehind_8a_t0 : SL := .cons Fbehind_8a0 .nil
def Fbehind_8 : S := (.ifs (.cmp .isnot (.var 11) (.cst .non))
 Fbehind_8a_t0
 .nil)
def Fbehind_9 : S := (.ret (.tup (.cons (.var 10) (.cons (.var 6) (.cons (.var 7) .nil)))))
def Fbehind_t9 : SL := .cons Fbehind_9 .nil
def Fbehind_t8 : SL := .cons Fbehind_8 Fbehind_t9
def Fbehind_t7 : SL := .cons Fbehind_7 Fbehind_t8
def Fbehind_t6 : SL := .cons Fbehind_6 Fbehind_t7
def Fbehind_t5 : SL := .cons Fbehind_5 Fbehind_t6
def Fbehind_t4 : SL := .cons Fbehind_4 Fbehind_t5
def Fbehind_t3 : SL := .cons Fbehind_3 Fbehind_t4
def Fbehind_t2 : SL := .cons Fbehind_2 Fbehind_t3
def Fbehind_t1 : SL := .cons Fbehind_1 Fbehind_t2
def Fbehind_t0 : SL := .cons Fbehind_0 Fbehind_t1
def b14 : SL := Fbehind_t0
/-! is_name -/
def Fis_name_0a0 : S := (.ret (.cst (.bl false)))
def Fis_name_0a_t0 : SL := .cons Fis_name_0a0 .nil
def Fis_name_0 : S := (.ifs (.or (.not (.isi (.var 0) .str)) (.or (.not (.chain .le .le (.cst (.int (1))) (.b1 .len (.var 0)) (.cst (.int (12))))) (.cmp .notin (.idx (.var 0) (.cst (.int (0)))) (.cst (.str [97, 98, 99, 100, 101, 102, 103, 104, 105, 106, 107, 108, 109, 110, 111, 112, 113, 114, 115, 116, 117, 118, 119, 120, 121, 122])))))
 Fis_name_0a_t0
 .nil)
def Fis_name_1 : S := (.ret (.bs .all (.comp [1] (.nm 1) (.seq (.var 0)) (.cst (.bl true)) (.or (.cmp .in_ (.var 1) (.cst (.str [97, 98, 99, 100, 101, 102, 103, 104, 105, 106, 107, 108, 109, 110, 111, 112, 113, 114, 115, 116, 117, 118, 119, 120, 121, 122]))) (.cmp .in_ (.var 1) (.cst (.str [48, 49, 50, 51, 52, 53, 54, 55, 56, 57])))))))
def Fis_name_t1 : SL := .cons Fis_name_1 .nil
def Fis_name_t0 : SL := .cons Fis_name_0 Fis_name_t1
def b15 : SL := Fis_name_t0
/-! is_one_of -/
def Fis_one_of_0 : S := (.ret (.and (.isi (.var 0) .str) (.cmp .in_ (.var 0) (.var 1))))
def Fis_one_of_t0 : SL := .cons Fis_one_of_0 .nil
def b16 : SL := Fis_one_of_t0
/-! is_pair -/
def Fis_pair_0 : S := (.ret (.and (.isi (.var 0) .tuple) (.and (.cmp .eq (.b1 .len (.var 0)) (.cst (.int (2)))) (.call 15 (.cons (.idx (.var 0) (.cst (.int (0)))) .nil)))))
def Fis_pair_t0 : SL := .cons Fis_pair_0 .nil
def b17 : SL := Fis_pair_t0
/-! are_params -/
def Fare_params_0a0 : S := (.ret (.cst (.bl false)))
def Fare_params_0a_t0 : SL := .cons Fare_params_0a0 .nil
def Fare_params_0 : S := (.ifs (.or (.not (.isi (.var 0) .tuple)) (.cmp .gt (.b1 .len (.var 0)) (.cst (.int (6)))))
 Fare_params_0a_t0
 .nil)
def Fare_params_1 : S := (.ret (.bs .all (.comp [1] (.nm 1) (.seq (.var 0)) (.cst (.bl true)) (.and (.call 17 (.cons (.var 1) .nil)) (.call 16 (.cons (.idx (.var 1) (.cst (.int (1)))) (.cons (.tup (.cons (.cst (.str [105, 110, 116])) (.cons (.cst (.str [98, 117, 102, 102, 101, 114])) .nil))) .nil)))))))
def Fare_params_t1 : SL := .cons Fare_params_1 .nil
def Fare_params_t0 : SL := .cons Fare_params_0 Fare_params_t1
def b18 : SL := Fare_params_t0
/-! are_shared -/
def Fare_shared_0a0 : S := (.ret (.cst (.bl false)))
def Fare_shared_0a_t0 : SL := .cons Fare_shared_0a0 .nil
def Fare_shared_0 : S := (.ifs (.or (.not (.isi (.var 0) .tuple)) (.cmp .gt (.b1 .len (.var 0)) (.cst (.int (3)))))
 Fare_shared_0a_t0
 .nil)
def Fare_shared_1 : S := (.ret (.bs .all (.comp [1] (.nm 1) (.seq (.var 0)) (.cst (.bl true)) (.and (.call 17 (.cons (.var 1) .nil)) (.and (.call 0 (.cons (.idx (.var 1) (.cst (.int (1)))) .nil)) (.chain .le .le (.cst (.int (1))) (.idx (.var 1) (.cst (.int (1)))) (.cst (.int (16)))))))))
def Fare_shared_t1 : SL := .cons Fare_shared_1 .nil
def Fare_shared_t0 : SL := .cons Fare_shared_0 Fare_shared_t1
def b19 : SL := Fare_shared_t0
/-! have_names -/
def Fhave_names_0 : S := (.asg (.nm 2) (.comp [3] (.nm 3) (.seq (.bop .add (.var 0) (.var 1))) (.cst (.bl true)) (.idx (.var 3) (.cst (.int (0))))))
def Fhave_names_1 : S := (.ret (.cmp .eq (.lset (.var 2)) (.b1 .len (.var 2))))
def Fhave_names_t1 : SL := .cons Fhave_names_1 .nil
def Fhave_names_t0 : SL := .cons Fhave_names_0 Fhave_names_t1
def b20 : SL := Fhave_names_t0
/-! is_below -/
def Fis_below_0 : S := (.ret (.and (.call 0 (.cons (.var 0) .nil)) (.chain .le .lt (.cst (.int (0))) (.var 0) (.var 1))))
def Fis_below_t0 : SL := .cons Fis_below_0 .nil
def b21 : SL := Fis_below_t0
/-! is_array -/
def Fis_array_0a0 : S := (.ret (.cst (.bl false)))
def Fis_array_0a_t0 : SL := .cons Fis_array_0a0 .nil
def Fis_array_0 : S := (.ifs (.or (.not (.call 0 (.cons (.var 0) .nil))) (.cmp .lt (.var 0) (.cst (.int (0)))))
 Fis_array_0a_t0
 .nil)
def Fis_array_1a0 : S := (.ret (.cmp .lt (.bop .sub (.var 0) (.cst (.int (6)))) (.b1 .len (.idx (.var 1) (.cst (.int (1)))))))
def Fis_array_1a_t0 : SL := .cons Fis_array_1a0 .nil
def Fis_array_1 : S := (.ifs (.cmp .ge (.var 0) (.cst (.int (6))))
 Fis_array_1a_t0
 .nil)
def Fis_array_2 : S := (.ret (.and (.cmp .lt (.var 0) (.b1 .len (.idx (.var 1) (.cst (.int (0)))))) (.cmp .eq (.idx (.idx (.idx (.var 1) (.cst (.int (0)))) (.var 0)) (.cst (.int (1)))) (.cst (.str [98, 117, 102, 102, 101, 114])))))
def Fis_array_t2 : SL := .cons Fis_array_2 .nil
def Fis_array_t1 : SL := .cons Fis_array_1 Fis_array_t2
def Fis_array_t0 : SL := .cons Fis_array_0 Fis_array_t1
def b22 : SL := Fis_array_t0
/-! is_part -/
def Fis_part_0a0 : S := (.ret (.call 16 (.cons (.var 1) (.cons (.idx (.cst (.fd [[115], [117], [98], [102]] [(.tup [(.str [116, 105, 100]), (.str [98, 105, 100]), (.str [100, 105, 109]), (.str [103, 114, 105, 100])]), (.tup [(.str [110, 101, 103]), (.str [110, 111, 116]), (.str [122, 101, 114, 111])]), (.tup [(.str [97, 100, 100]), (.str [115, 117, 98]), (.str [109, 117, 108]), (.str [100, 105, 118]), (.str [114, 101, 109]), (.str [97, 110, 100]), (.str [111, 114]), (.str [120, 111, 114]), (.str [115, 104, 108]), (.str [115, 104, 114]), (.str [108, 116]), (.str [108, 101]), (.str [101, 113]), (.str [110, 101]), (.str [109, 105, 110]), (.str [109, 97, 120])]), (.tup [(.str [97, 100, 100]), (.str [109, 105, 110]), (.str [109, 97, 120]), (.str [97, 110, 100]), (.str [111, 114]), (.str [120, 111, 114])])])) (.var 0)) .nil))))
def Fis_part_0a_t0 : SL := .cons Fis_part_0a0 .nil
def Fis_part_0 : S := (.ifs (.cmp .in_ (.var 0) (.cst (.fd [[115], [117], [98], [102]] [(.tup [(.str [116, 105, 100]), (.str [98, 105, 100]), (.str [100, 105, 109]), (.str [103, 114, 105, 100])]), (.tup [(.str [110, 101, 103]), (.str [110, 111, 116]), (.str [122, 101, 114, 111])]), (.tup [(.str [97, 100, 100]), (.str [115, 117, 98]), (.str [109, 117, 108]), (.str [100, 105, 118]), (.str [114, 101, 109]), (.str [97, 110, 100]), (.str [111, 114]), (.str [120, 111, 114]), (.str [115, 104, 108]), (.str [115, 104, 114]), (.str [108, 116]), (.str [108, 101]), (.str [101, 113]), (.str [110, 101]), (.str [109, 105, 110]), (.str [109, 97, 120])]), (.tup [(.str [97, 100, 100]), (.str [109, 105, 110]), (.str [109, 97, 120]), (.str [97, 110, 100]), (.str [111, 114]), (.str [120, 111, 114])])])))
 Fis_part_0a_t0
 .nil)
def Fis_part_1a0 : S := (.ret (.call 1 (.cons (.var 1) .nil)))
def Fis_part_1a_t0 : SL := .cons Fis_part_1a0 .nil
def Fis_part_1 : S := (.ifs (.cmp .eq (.var 0) (.cst (.str [110])))
 Fis_part_1a_t0
 .nil)
def Fis_part_2a0 : S := (.ret (.and (.call 21 (.cons (.var 1) (.cons (.b1 .len (.idx (.var 2) (.cst (.int (0))))) .nil))) (.cmp .eq (.idx (.idx (.idx (.var 2) (.cst (.int (0)))) (.var 1)) (.cst (.int (1)))) (.cst (.str [105, 110, 116])))))
def Fis_part_2a_t0 : SL := .cons Fis_part_2a0 .nil
def Fis_part_2 : S := (.ifs (.cmp .eq (.var 0) (.cst (.str [112])))
 Fis_part_2a_t0
 .nil)
def Fis_part_3a0 : S := (.ret (.call 22 (.cons (.var 1) (.cons (.var 2) .nil))))
def Fis_part_3a_t0 : SL := .cons Fis_part_3a0 .nil
def Fis_part_3 : S := (.ifs (.cmp .eq (.var 0) (.cst (.str [97])))
 Fis_part_3a_t0
 .nil)
def Fis_part_4 : S := (.asg (.nm 3) (.b1 .len (.idx (.var 2) (.cst (.int (3))))))
def Fis_part_5 : S := (.ret (.call 21 (.cons (.var 1) (.cons (.idx (.dnew (.cons (.cst (.str [114])) (.cons (.cst (.int (8))) (.cons (.cst (.str [109])) (.cons (.bop .add (.cst (.int (99))) (.cst (.int (1)))) (.cons (.cst (.str [108])) (.cons (.idx (.var 2) (.cst (.int (2)))) (.cons (.cst (.str [107])) (.cons (.var 3) (.cons (.cst (.str [106])) (.cons (.bop .add (.var 3) (.cst (.int (1)))) .nil))))))))))) (.var 0)) .nil))))
def Fis_part_t5 : SL := .cons Fis_part_5 .nil
def Fis_part_t4 : SL := .cons Fis_part_4 Fis_part_t5
def Fis_part_t3 : SL := .cons Fis_part_3 Fis_part_t4
def Fis_part_t2 : SL := .cons Fis_part_2 Fis_part_t3
def Fis_part_t1 : SL := .cons Fis_part_1 Fis_part_t2
def Fis_part_t0 : SL := .cons Fis_part_0 Fis_part_t1
def b23 : SL := Fis_part_t0
/-! is_instruction -/
def Fis_instruction_0a0 : S := (.ret (.cst (.bl false)))
def Fis_instruction_0a_t0 : SL := .cons Fis_instruction_0a0 .nil
def Fis_instruction_0 : S := (.ifs (.or (.not (.isi (.var 0) .tuple)) (.or (.not (.var 0)) (.or (.not (.isi (.idx (.var 0) (.cst (.int (0)))) .str)) (.cmp .notin (.idx (.var 0) (.cst (.int (0)))) (.cst (.fd [[119, 111, 114, 100], [112, 97, 114, 97, 109], [115, 112, 101, 99, 105, 97, 108], [99, 111, 112, 121], [117, 110, 97, 114, 121], [98, 105, 110, 97, 114, 121], [108, 111, 97, 100], [115, 116, 111, 114, 101], [97, 116, 111, 109, 105, 99], [98, 97, 114, 114, 105, 101, 114], [99, 111, 108, 108, 101, 99, 116], [103, 101, 116], [107, 101, 101, 112], [106, 117, 109, 112], [101, 120, 105, 116], [98, 114, 97, 110, 99, 104]] [(.str [114, 110]), (.str [114, 112]), (.str [114, 115]), (.str [114, 114]), (.str [117, 114, 114]), (.str [98, 114, 114, 114]), (.str [114, 97, 114]), (.str [97, 114, 114]), (.str [102, 97, 114, 114]), (.str [109]), (.str [102, 114, 114, 109]), (.str [114, 108]), (.str [108, 114]), (.str [107]), (.str []), (.str [114, 107, 106])]))))))
 Fis_instruction_0a_t0
 .nil)
def Fis_instruction_1 : S := (.asg (.nm 2) (.idx (.cst (.fd [[119, 111, 114, 100], [112, 97, 114, 97, 109], [115, 112, 101, 99, 105, 97, 108], [99, 111, 112, 121], [117, 110, 97, 114, 121], [98, 105, 110, 97, 114, 121], [108, 111, 97, 100], [115, 116, 111, 114, 101], [97, 116, 111, 109, 105, 99], [98, 97, 114, 114, 105, 101, 114], [99, 111, 108, 108, 101, 99, 116], [103, 101, 116], [107, 101, 101, 112], [106, 117, 109, 112], [101, 120, 105, 116], [98, 114, 97, 110, 99, 104]] [(.str [114, 110]), (.str [114, 112]), (.str [114, 115]), (.str [114, 114]), (.str [117, 114, 114]), (.str [98, 114, 114, 114]), (.str [114, 97, 114]), (.str [97, 114, 114]), (.str [102, 97, 114, 114]), (.str [109]), (.str [102, 114, 114, 109]), (.str [114, 108]), (.str [108, 114]), (.str [107]), (.str []), (.str [114, 107, 106])])) (.idx (.var 0) (.cst (.int (0))))))
def Fis_instruction_2 : S := (.ret (.and (.cmp .eq (.b1 .len (.var 0)) (.bop .add (.b1 .len (.var 2)) (.cst (.int (1))))) (.bs .all (.comp [3] (.nm 3) (.rng1 (.b1 .len (.var 2))) (.cst (.bl true)) (.call 23 (.cons (.idx (.var 2) (.var 3)) (.cons (.idx (.var 0) (.bop .add (.var 3) (.cst (.int (1))))) (.cons (.var 1) .nil))))))))
def Fis_instruction_t2 : SL := .cons Fis_instruction_2 .nil
def Fis_instruction_t1 : SL := .cons Fis_instruction_1 Fis_instruction_t2
def Fis_instruction_t0 : SL := .cons Fis_instruction_0 Fis_instruction_t1
def b24 : SL := Fis_instruction_t0
/-! check_code -/
def Fcheck_code_0a0 : S := (.rais 1)
def Fcheck_code_0a_t0 : SL := .cons Fcheck_code_0a0 .nil
def Fcheck_code_0 : S := (.ifs (.or (.not (.isi (.var 0) .tuple)) (.or (.cmp .ne (.b1 .len (.var 0)) (.cst (.int (4)))) (.not (.call 21 (.cons (.idx (.var 0) (.cst (.int (2)))) (.cons (.bop .add (.cst (.int (64))) (.cst (.int (1)))) .nil))))))
 Fcheck_code_0a_t0
 .nil)
def Fcheck_code_1a0 : S := (.rais 1)
def Fcheck_code_1a_t0 : SL := .cons Fcheck_code_1a0 .nil
def Fcheck_code_1 : S := (.ifs (.or (.not (.call 18 (.cons (.idx (.var 0) (.cst (.int (0)))) .nil))) (.or (.not (.call 19 (.cons (.idx (.var 0) (.cst (.int (1)))) .nil))) (.not (.call 20 (.cons (.idx (.var 0) (.cst (.int (0)))) (.cons (.idx (.var 0) (.cst (.int (1)))) .nil))))))
 Fcheck_code_1a_t0
 .nil)
def Fcheck_code_2 : S := (.asg (.nm 1) (.idx (.var 0) (.cst (.int (3)))))
def Fcheck_code_3a0 : S := (.rais 1)
def Fcheck_code_3a_t0 : SL := .cons Fcheck_code_3a0 .nil
def Fcheck_code_3 : S := (.ifs (.or (.not (.isi (.var 1) .tuple)) (.not (.chain .le .le (.cst (.int (1))) (.b1 .len (.var 1)) (.cst (.int (2000))))))
 Fcheck_code_3a_t0
 .nil)
def Fcheck_code_4a0 : S := (.rais 1)
def Fcheck_code_4a_t0 : SL := .cons Fcheck_code_4a0 .nil
def Fcheck_code_4 : S := (.ifs (.or (.not (.bs .all (.comp [2] (.nm 2) (.seq (.var 1)) (.cst (.bl true)) (.call 24 (.cons (.var 2) (.cons (.var 0) .nil)))))) (.cmp .notin (.idx (.idx (.var 1) (.neg (.cst (.int (1))))) (.cst (.int (0)))) (.tup (.cons (.cst (.str [101, 120, 105, 116])) (.cons (.cst (.str [106, 117, 109, 112])) .nil)))))
 Fcheck_code_4a_t0
 .nil)
def Fcheck_code_t4 : SL := .cons Fcheck_code_4 .nil
def Fcheck_code_t3 : SL := .cons Fcheck_code_3 Fcheck_code_t4
def Fcheck_code_t2 : SL := .cons Fcheck_code_2 Fcheck_code_t3
def Fcheck_code_t1 : SL := .cons Fcheck_code_1 Fcheck_code_t2
def Fcheck_code_t0 : SL := .cons Fcheck_code_0 Fcheck_code_t1
def b25 : SL := Fcheck_code_t0
/-! _law_stream -/
def Lstream_0 : S := (.asg (.nm 1) (.cst (.int (17))))
def Lstream_1f0 : S := (.asg (.nm 1) (.bop .mod (.b1 .int (.bop .add (.bop .add (.bop .mul (.var 1) (.cst (.int (48271)))) (.bop .mod (.b1 .int (.var 2)) (.cst (.int (65521))))) (.cst (.int (1))))) (.cst (.int (2147483647)))))
def Lstream_1f_t0 : SL := .cons Lstream_1f0 .nil
def Lstream_1 : S := (.for_ (.nm 2) (.seq (.var 0))
 Lstream_1f_t0)
def Lstream_2 : S := (.ret (.lst (.cons (.bt .list (.var 0)) (.cons (.cst (.int (0))) (.cons (.cst (.int (0))) (.cons (.var 1) .nil))))))
def Lstream_t2 : SL := .cons Lstream_2 .nil
def Lstream_t1 : SL := .cons Lstream_1 Lstream_t2
def Lstream_t0 : SL := .cons Lstream_0 Lstream_t1
def b26 : SL := Lstream_t0
/-! _law_draw -/
def Ldraw_0a0 : S := (.put (.var 0) (.cst (.int (1))) (.b1 .abs (.b1 .int (.idx (.idx (.var 0) (.cst (.int (0)))) (.idx (.var 0) (.cst (.int (2))))))))
def Ldraw_0a1 : S := (.put (.var 0) (.cst (.int (2))) (.bop .add (.idx (.var 0) (.cst (.int (2)))) (.cst (.int (1)))))
def Ldraw_0a_t1 : SL := .cons Ldraw_0a1 .nil
def Ldraw_0a_t0 : SL := .cons Ldraw_0a0 Ldraw_0a_t1
def Ldraw_0 : S := (.ifs (.and (.cmp .eq (.idx (.var 0) (.cst (.int (1)))) (.cst (.int (0)))) (.cmp .lt (.idx (.var 0) (.cst (.int (2)))) (.b1 .len (.idx (.var 0) (.cst (.int (0)))))))
 Ldraw_0a_t0
 .nil)
def Ldraw_1a0 : S := (.put (.var 0) (.cst (.int (3))) (.bop .mod (.b1 .int (.bop .add (.bop .mul (.idx (.var 0) (.cst (.int (3)))) (.cst (.int (48271)))) (.cst (.int (11))))) (.cst (.int (2147483647)))))
def Ldraw_1a1 : S := (.ret (.bop .mod (.b1 .int (.bop .fdiv (.idx (.var 0) (.cst (.int (3)))) (.cst (.int (97))))) (.var 1)))
def Ldraw_1a_t1 : SL := .cons Ldraw_1a1 .nil
def Ldraw_1a_t0 : SL := .cons Ldraw_1a0 Ldraw_1a_t1
def Ldraw_1 : S := (.ifs (.cmp .eq (.idx (.var 0) (.cst (.int (1)))) (.cst (.int (0))))
 Ldraw_1a_t0
 .nil)
def Ldraw_2 : S := (.asg (.nm 2) (.bop .mod (.b1 .int (.idx (.var 0) (.cst (.int (1))))) (.var 1)))
def Ldraw_3 : S := (.put (.var 0) (.cst (.int (1))) (.bop .fdiv (.idx (.var 0) (.cst (.int (1)))) (.var 1)))
def Ldraw_4 : S := (.ret (.var 2))
def Ldraw_t4 : SL := .cons Ldraw_4 .nil
def Ldraw_t3 : SL := .cons Ldraw_3 Ldraw_t4
def Ldraw_t2 : SL := .cons Ldraw_2 Ldraw_t3
def Ldraw_t1 : SL := .cons Ldraw_1 Ldraw_t2
def Ldraw_t0 : SL := .cons Ldraw_0 Ldraw_t1
def b27 : SL := Ldraw_t0
/-! _law_word -/
def Lword_0 : S := (.asg (.nm 1) (.lst (.cons (.cst (.int (0))) (.cons (.cst (.int (1))) (.cons (.neg (.cst (.int (1)))) (.cons (.cst (.int (2))) (.cons (.cst (.int (5))) (.cons (.cst (.int (31))) (.cons (.cst (.int (32))) (.cons (.cst (.int (33))) (.cons (.neg (.cst (.int (32)))) (.cons (.bop .sub (.bop .pow (.cst (.int (2))) (.cst (.int (31)))) (.cst (.int (1)))) (.cons (.neg (.bop .pow (.cst (.int (2))) (.cst (.int (31))))) (.cons (.bop .sub (.bop .pow (.cst (.int (2))) (.cst (.int (31)))) (.cst (.int (2)))) (.cons (.bop .sub (.cst (.int (1))) (.bop .pow (.cst (.int (2))) (.cst (.int (31))))) (.cons (.cst (.int (65535))) (.cons (.cst (.int (65536))) (.cons (.neg (.cst (.int (65536)))) .nil))))))))))))))))))
def Lword_1a0 : S := (.ret (.bop .sub (.call 27 (.cons (.var 0) (.cons (.bop .pow (.cst (.int (2))) (.cst (.int (32)))) .nil))) (.bop .pow (.cst (.int (2))) (.cst (.int (31))))))
def Lword_1a_t0 : SL := .cons Lword_1a0 .nil
def Lword_1 : S := (.ifs (.cmp .eq (.call 27 (.cons (.var 0) (.cons (.cst (.int (3))) .nil))) (.cst (.int (0))))
 Lword_1a_t0
 .nil)
def Lword_2 : S := (.ret (.idx (.var 1) (.call 27 (.cons (.var 0) (.cons (.b1 .len (.var 1)) .nil)))))
def Lword_t2 : SL := .cons Lword_2 .nil
def Lword_t1 : SL := .cons Lword_1 Lword_t2
def Lword_t0 : SL := .cons Lword_0 Lword_t1
def b28 : SL := Lword_t0
/-! _law_wrapped -/
def Lwrapped_0 : S := (.asg (.nm 0) (.bop .mod (.b1 .int (.var 0)) (.cst (.int (4294967296)))))
def Lwrapped_1 : S := (.ret (.bop .sub (.var 0) (.bop .mul (.cst (.int (4294967296))) (.b1 .int (.cmp .gt (.var 0) (.cst (.int (2147483647))))))))
def Lwrapped_t1 : SL := .cons Lwrapped_1 .nil
def Lwrapped_t0 : SL := .cons Lwrapped_0 Lwrapped_t1
def b29 : SL := Lwrapped_t0
/-! _law_bits -/
def Lbits_0 : S := (.asg (.nm 1) (.bop .mod (.b1 .int (.var 1)) (.cst (.int (4294967296)))))
def Lbits_1 : S := (.asg (.nm 2) (.bop .mod (.b1 .int (.var 2)) (.cst (.int (4294967296)))))
def Lbits_2 : S := (.asg (.nm 3) (.cst (.int (0))))
def Lbits_3 : S := (.asg (.nm 4) (.cst (.int (1))))
def Lbits_4f0 : S := (.asg (.nm 6) (.bop .mod (.b1 .int (.var 1)) (.cst (.int (2)))))
def Lbits_4f1 : S := (.asg (.nm 7) (.bop .mod (.b1 .int (.var 2)) (.cst (.int (2)))))
def Lbits_4f2 : S := (.asg (.nm 8) (.idx (.dnew (.cons (.cst (.str [97, 110, 100])) (.cons (.bop .mul (.var 6) (.var 7)) (.cons (.cst (.str [111, 114])) (.cons (.max2 (.var 6) (.var 7)) (.cons (.cst (.str [120, 111, 114])) (.cons (.b1 .int (.cmp .ne (.var 6) (.var 7))) .nil))))))) (.var 0)))
def Lbits_4f3 : S := (.asg (.nm 3) (.bop .add (.var 3) (.bop .mul (.var 4) (.var 8))))
def Lbits_4f4 : S := (.asg (.nm 4) (.bop .mul (.var 4) (.cst (.int (2)))))
def Lbits_4f5 : S := (.asg (.nm 1) (.bop .fdiv (.var 1) (.cst (.int (2)))))
def Lbits_4f6 : S := (.asg (.nm 2) (.bop .fdiv (.var 2) (.cst (.int (2)))))
def Lbits_4f_t6 : SL := .cons Lbits_4f6 .nil
def Lbits_4f_t5 : SL := .cons Lbits_4f5 Lbits_4f_t6
def Lbits_4f_t4 : SL := .cons Lbits_4f4 Lbits_4f_t5
def Lbits_4f_t3 : SL := .cons Lbits_4f3 Lbits_4f_t4
def Lbits_4f_t2 : SL := .cons Lbits_4f2 Lbits_4f_t3
def Lbits_4f_t1 : SL := .cons Lbits_4f1 Lbits_4f_t2
def Lbits_4f_t0 : SL := .cons Lbits_4f0 Lbits_4f_t1
def Lbits_4 : S := (.for_ (.nm 5) (.rng1 (.cst (.int (32))))
 Lbits_4f_t0)
def Lbits_5 : S := (.ret (.var 3))
def Lbits_t5 : SL := .cons Lbits_5 .nil
def Lbits_t4 : SL := .cons Lbits_4 Lbits_t5
def Lbits_t3 : SL := .cons Lbits_3 Lbits_t4
def Lbits_t2 : SL := .cons Lbits_2 Lbits_t3
def Lbits_t1 : SL := .cons Lbits_1 Lbits_t2
def Lbits_t0 : SL := .cons Lbits_0 Lbits_t1
def b30 : SL := Lbits_t0
/-! _law_shifted -/
def Lshifted_0f0a0 : S := (.asg (.nm 1) (.bop .mul (.var 1) (.cst (.int (2)))))
def Lshifted_0f0a_t0 : SL := .cons Lshifted_0f0a0 .nil
def Lshifted_0f0b0 : S := (.asg (.nm 1) (.bop .fdiv (.var 1) (.cst (.int (2)))))
def Lshifted_0f0b_t0 : SL := .cons Lshifted_0f0b0 .nil
def Lshifted_0f0 : S := (.ifs (.cmp .eq (.var 0) (.cst (.str [115, 104, 108])))
 Lshifted_0f0a_t0
 Lshifted_0f0b_t0)
def Lshifted_0f_t0 : SL := .cons Lshifted_0f0 .nil
def Lshifted_0 : S := (.for_ (.nm 3) (.rng1 (.bop .mod (.b1 .int (.var 2)) (.cst (.int (32)))))
 Lshifted_0f_t0)
def Lshifted_1 : S := (.ret (.var 1))
def Lshifted_t1 : SL := .cons Lshifted_1 .nil
def Lshifted_t0 : SL := .cons Lshifted_0 Lshifted_t1
def b31 : SL := Lshifted_t0
/-! _law_binary -/
def Lbinary_0a0a0 : S := (.ret (.cst (.int (0))))
def Lbinary_0a0a_t0 : SL := .cons Lbinary_0a0a0 .nil
def Lbinary_0a0 : S := (.ifs (.cmp .eq (.var 2) (.cst (.int (0))))
 Lbinary_0a0a_t0
 .nil)
def Lbinary_0a1 : S := (.asg (.nm 3) (.bop .fdiv (.b1 .abs (.var 1)) (.b1 .abs (.var 2))))
def Lbinary_0a2a0 : S := (.asg (.nm 3) (.bop .sub (.cst (.int (0))) (.var 3)))
def Lbinary_0a2a_t0 : SL := .cons Lbinary_0a2a0 .nil
def Lbinary_0a2 : S := (.ifs (.cmp .lt (.bop .mul (.var 1) (.var 2)) (.cst (.int (0))))
 Lbinary_0a2a_t0
 .nil)
def Lbinary_0a3a0 : S := (.asg (.nm 3) (.bop .sub (.var 1) (.bop .mul (.var 3) (.var 2))))
def Lbinary_0a3a_t0 : SL := .cons Lbinary_0a3a0 .nil
def Lbinary_0a3 : S := (.ifs (.cmp .eq (.var 0) (.cst (.str [114, 101, 109])))
 Lbinary_0a3a_t0
 .nil)
def Lbinary_0a4 : S := (.ret (.call 29 (.cons (.var 3) .nil)))
def Lbinary_0a_t4 : SL := .cons Lbinary_0a4 .nil
def Lbinary_0a_t3 : SL := .cons Lbinary_0a3 Lbinary_0a_t4
def Lbinary_0a_t2 : SL := .cons Lbinary_0a2 Lbinary_0a_t3
def Lbinary_0a_t1 : SL := .cons Lbinary_0a1 Lbinary_0a_t2
def Lbinary_0a_t0 : SL := .cons Lbinary_0a0 Lbinary_0a_t1
def Lbinary_0 : S := (.ifs (.cmp .in_ (.var 0) (.tup (.cons (.cst (.str [100, 105, 118])) (.cons (.cst (.str [114, 101, 109])) .nil))))
 Lbinary_0a_t0
 .nil)
def Lbinary_1a0 : S := (.ret (.call 29 (.cons (.call 30 (.cons (.var 0) (.cons (.var 1) (.cons (.var 2) .nil)))) .nil)))
def Lbinary_1a_t0 : SL := .cons Lbinary_1a0 .nil
def Lbinary_1 : S := (.ifs (.cmp .in_ (.var 0) (.tup (.cons (.cst (.str [97, 110, 100])) (.cons (.cst (.str [111, 114])) (.cons (.cst (.str [120, 111, 114])) .nil)))))
 Lbinary_1a_t0
 .nil)
def Lbinary_2a0 : S := (.ret (.call 29 (.cons (.call 31 (.cons (.var 0) (.cons (.var 1) (.cons (.var 2) .nil)))) .nil)))
def Lbinary_2a_t0 : SL := .cons Lbinary_2a0 .nil
def Lbinary_2 : S := (.ifs (.cmp .in_ (.var 0) (.tup (.cons (.cst (.str [115, 104, 108])) (.cons (.cst (.str [115, 104, 114])) .nil))))
 Lbinary_2a_t0
 .nil)
def Lbinary_3 : S := (.asg (.nm 4) (.dnew (.cons (.cst (.str [97, 100, 100])) (.cons (.bop .add (.var 1) (.var 2)) (.cons (.cst (.str [115, 117, 98])) (.cons (.bop .sub (.var 1) (.var 2)) (.cons (.cst (.str [109, 117, 108])) (.cons (.bop .mul (.var 1) (.var 2)) (.cons (.cst (.str [108, 116])) (.cons (.b1 .int (.cmp .lt (.var 1) (.var 2))) (.cons (.cst (.str [108, 101])) (.cons (.b1 .int (.cmp .le (.var 1) (.var 2))) (.cons (.cst (.str [101, 113])) (.cons (.b1 .int (.cmp .eq (.var 1) (.var 2))) .nil))))))))))))))
def Lbinary_4 : S := (.put (.var 4) (.cst (.str [110, 101])) (.b1 .int (.cmp .ne (.var 1) (.var 2))))
def Lbinary_5 : S := (.put (.var 4) (.cst (.str [109, 105, 110])) (.min2 (.var 1) (.var 2)))
def Lbinary_6 : S := (.put (.var 4) (.cst (.str [109, 97, 120])) (.max2 (.var 1) (.var 2)))
def Lbinary_7 : S := (.ret (.call 29 (.cons (.idx (.var 4) (.var 0)) .nil)))
def Lbinary_t7 : SL := .cons Lbinary_7 .nil
def Lbinary_t6 : SL := .cons Lbinary_6 Lbinary_t7
def Lbinary_t5 : SL := .cons Lbinary_5 Lbinary_t6
def Lbinary_t4 : SL := .cons Lbinary_4 Lbinary_t5
def Lbinary_t3 : SL := .cons Lbinary_3 Lbinary_t4
def Lbinary_t2 : SL := .cons Lbinary_2 Lbinary_t3
def Lbinary_t1 : SL := .cons Lbinary_1 Lbinary_t2
def Lbinary_t0 : SL := .cons Lbinary_0 Lbinary_t1
def b32 : SL := Lbinary_t0
/-! _law_unary -/
def Lunary_0a0 : S := (.ret (.b1 .int (.cmp .eq (.var 1) (.cst (.int (0))))))
def Lunary_0a_t0 : SL := .cons Lunary_0a0 .nil
def Lunary_0 : S := (.ifs (.cmp .eq (.var 0) (.cst (.str [122, 101, 114, 111])))
 Lunary_0a_t0
 .nil)
def Lunary_1 : S := (.ret (.call 29 (.cons (.idx (.dnew (.cons (.cst (.str [110, 101, 103])) (.cons (.bop .sub (.cst (.int (0))) (.var 1)) (.cons (.cst (.str [110, 111, 116])) (.cons (.bop .sub (.bop .sub (.cst (.int (0))) (.var 1)) (.cst (.int (1)))) .nil))))) (.var 0)) .nil)))
def Lunary_t1 : SL := .cons Lunary_1 .nil
def Lunary_t0 : SL := .cons Lunary_0 Lunary_t1
def b33 : SL := Lunary_t0
/-! _law_register -/
def Lregister_0 : S := (.ret (.call 27 (.cons (.var 0) (.cons (.idx (.lst (.cons (.cst (.int (4))) (.cons (.cst (.int (4))) (.cons (.cst (.int (8))) .nil)))) (.call 27 (.cons (.var 0) (.cons (.cst (.int (3))) .nil)))) .nil))))
def Lregister_t0 : SL := .cons Lregister_0 .nil
def b34 : SL := Lregister_t0
/-! _law_plain_instruction -/
def Lplain_instruction_0 : S := (.asg (.nm 2) (.call 27 (.cons (.var 0) (.cons (.cst (.int (9))) .nil))))
def Lplain_instruction_1 : S := (.asg (.nm 3) (.call 34 (.cons (.var 0) .nil)))
def Lplain_instruction_2 : S := (.asg (.nm 4) (.call 34 (.cons (.var 0) .nil)))
def Lplain_instruction_3a0 : S := (.ret (.tup (.cons (.cst (.str [119, 111, 114, 100])) (.cons (.var 3) (.cons (.idx (.lst (.cons (.cst (.int (0))) (.cons (.cst (.int (1))) (.cons (.cst (.int (2))) (.cons (.neg (.cst (.int (1)))) (.cons (.cst (.int (7))) .nil)))))) (.call 27 (.cons (.var 0) (.cons (.cst (.int (5))) .nil)))) .nil)))))
def Lplain_instruction_3a_t0 : SL := .cons Lplain_instruction_3a0 .nil
def Lplain_instruction_3 : S := (.ifs (.cmp .eq (.var 2) (.cst (.int (0))))
 Lplain_instruction_3a_t0
 .nil)
def Lplain_instruction_4a0 : S := (.ret (.tup (.cons (.cst (.str [112, 97, 114, 97, 109])) (.cons (.var 3) (.cons (.idx (.lst (.cons (.cst (.int (1))) (.cons (.cst (.int (3))) (.cons (.cst (.int (4))) .nil)))) (.call 27 (.cons (.var 0) (.cons (.cst (.int (3))) .nil)))) .nil)))))
def Lplain_instruction_4a_t0 : SL := .cons Lplain_instruction_4a0 .nil
def Lplain_instruction_4 : S := (.ifs (.cmp .eq (.var 2) (.cst (.int (1))))
 Lplain_instruction_4a_t0
 .nil)
def Lplain_instruction_5a0 : S := (.ret (.tup (.cons (.cst (.str [115, 112, 101, 99, 105, 97, 108])) (.cons (.var 3) (.cons (.idx (.lst (.cons (.cst (.str [116, 105, 100])) (.cons (.cst (.str [98, 105, 100])) (.cons (.cst (.str [100, 105, 109])) (.cons (.cst (.str [103, 114, 105, 100])) (.cons (.cst (.str [116, 105, 100])) .nil)))))) (.call 27 (.cons (.var 0) (.cons (.cst (.int (5))) .nil)))) .nil)))))
def Lplain_instruction_5a_t0 : SL := .cons Lplain_instruction_5a0 .nil
def Lplain_instruction_5 : S := (.ifs (.cmp .eq (.var 2) (.cst (.int (2))))
 Lplain_instruction_5a_t0
 .nil)
def Lplain_instruction_6a0 : S := (.ret (.tup (.cons (.cst (.str [99, 111, 112, 121])) (.cons (.var 3) (.cons (.var 4) .nil)))))
def Lplain_instruction_6a_t0 : SL := .cons Lplain_instruction_6a0 .nil
def Lplain_instruction_6 : S := (.ifs (.cmp .eq (.var 2) (.cst (.int (3))))
 Lplain_instruction_6a_t0
 .nil)
def Lplain_instruction_7a0 : S := (.ret (.tup (.cons (.cst (.str [117, 110, 97, 114, 121])) (.cons (.idx (.lst (.cons (.cst (.str [110, 101, 103])) (.cons (.cst (.str [110, 111, 116])) (.cons (.cst (.str [122, 101, 114, 111])) .nil)))) (.call 27 (.cons (.var 0) (.cons (.cst (.int (3))) .nil)))) (.cons (.var 3) (.cons (.var 4) .nil))))))
def Lplain_instruction_7a_t0 : SL := .cons Lplain_instruction_7a0 .nil
def Lplain_instruction_7 : S := (.ifs (.cmp .eq (.var 2) (.cst (.int (4))))
 Lplain_instruction_7a_t0
 .nil)
def Lplain_instruction_8a0 : S := (.ret (.tup (.cons (.cst (.str [103, 101, 116])) (.cons (.var 3) (.cons (.call 27 (.cons (.var 0) (.cons (.var 1) .nil))) .nil)))))
def Lplain_instruction_8a_t0 : SL := .cons Lplain_instruction_8a0 .nil
def Lplain_instruction_8 : S := (.ifs (.and (.cmp .eq (.var 2) (.cst (.int (5)))) (.cmp .gt (.var 1) (.cst (.int (0)))))
 Lplain_instruction_8a_t0
 .nil)
def Lplain_instruction_9a0 : S := (.ret (.tup (.cons (.cst (.str [107, 101, 101, 112])) (.cons (.call 27 (.cons (.var 0) (.cons (.var 1) .nil))) (.cons (.var 4) .nil)))))
def Lplain_instruction_9a_t0 : SL := .cons Lplain_instruction_9a0 .nil
def Lplain_instruction_9 : S := (.ifs (.and (.cmp .eq (.var 2) (.cst (.int (6)))) (.cmp .gt (.var 1) (.cst (.int (0)))))
 Lplain_instruction_9a_t0
 .nil)
def Lplain_instruction_10 : S := (.asg (.nm 5) (.lst (.cons (.cst (.str [97, 100, 100])) (.cons (.cst (.str [115, 117, 98])) (.cons (.cst (.str [109, 117, 108])) (.cons (.cst (.str [97, 110, 100])) (.cons (.cst (.str [120, 111, 114])) (.cons (.cst (.str [108, 116])) (.cons (.cst (.str [101, 113])) (.cons (.cst (.str [109, 97, 120])) .nil))))))))))
def Lplain_instruction_11 : S := (.ret (.tup (.cons (.cst (.str [98, 105, 110, 97, 114, 121])) (.cons (.idx (.var 5) (.call 27 (.cons (.var 0) (.cons (.cst (.int (8))) .nil)))) (.cons (.var 3) (.cons (.var 4) (.cons (.call 34 (.cons (.var 0) .nil)) .nil)))))))
def Lplain_instruction_t11 : SL := .cons Lplain_instruction_11 .nil
def Lplain_instruction_t10 : SL := .cons Lplain_instruction_10 Lplain_instruction_t11
def Lplain_instruction_t9 : SL := .cons Lplain_instruction_9 Lplain_instruction_t10
def Lplain_instruction_t8 : SL := .cons Lplain_instruction_8 Lplain_instruction_t9
def Lplain_instruction_t7 : SL := .cons Lplain_instruction_7 Lplain_instruction_t8
def Lplain_instruction_t6 : SL := .cons Lplain_instruction_6 Lplain_instruction_t7
def Lplain_instruction_t5 : SL := .cons Lplain_instruction_5 Lplain_instruction_t6
def Lplain_instruction_t4 : SL := .cons Lplain_instruction_4 Lplain_instruction_t5
def Lplain_instruction_t3 : SL := .cons Lplain_instruction_3 Lplain_instruction_t4
def Lplain_instruction_t2 : SL := .cons Lplain_instruction_2 Lplain_instruction_t3
def Lplain_instruction_t1 : SL := .cons Lplain_instruction_1 Lplain_instruction_t2
def Lplain_instruction_t0 : SL := .cons Lplain_instruction_0 Lplain_instruction_t1
def b35 : SL := Lplain_instruction_t0
/-! _law_instruction -/
def Linstruction_0 : S := (.asg (.nm 3) (.call 27 (.cons (.var 0) (.cons (.cst (.int (14))) .nil))))
def Linstruction_1 : S := (.asg (.nm 4) (.call 34 (.cons (.var 0) .nil)))
def Linstruction_2 : S := (.asg (.nm 5) (.idx (.lst (.cons (.cst (.int (0))) (.cons (.cst (.int (2))) (.cons (.cst (.int (6))) (.cons (.cst (.int (7))) (.cons (.cst (.int (8))) (.cons (.cst (.int (6))) .nil))))))) (.call 27 (.cons (.var 0) (.cons (.cst (.int (6))) .nil)))))
def Linstruction_3 : S := (.asg (.nm 6) (.idx (.lst (.cons (.cst (.str [97, 100, 100])) (.cons (.cst (.str [109, 105, 110])) (.cons (.cst (.str [109, 97, 120])) (.cons (.cst (.str [97, 110, 100])) (.cons (.cst (.str [111, 114])) (.cons (.cst (.str [120, 111, 114])) .nil))))))) (.call 27 (.cons (.var 0) (.cons (.cst (.int (6))) .nil)))))
def Linstruction_4a0 : S := (.ret (.tup (.cons (.cst (.str [108, 111, 97, 100])) (.cons (.call 34 (.cons (.var 0) .nil)) (.cons (.var 5) (.cons (.var 4) .nil))))))
def Linstruction_4a_t0 : SL := .cons Linstruction_4a0 .nil
def Linstruction_4 : S := (.ifs (.cmp .eq (.var 3) (.cst (.int (0))))
 Linstruction_4a_t0
 .nil)
def Linstruction_5a0 : S := (.ret (.tup (.cons (.cst (.str [115, 116, 111, 114, 101])) (.cons (.var 5) (.cons (.var 4) (.cons (.call 34 (.cons (.var 0) .nil)) .nil))))))
def Linstruction_5a_t0 : SL := .cons Linstruction_5a0 .nil
def Linstruction_5 : S := (.ifs (.cmp .eq (.var 3) (.cst (.int (1))))
 Linstruction_5a_t0
 .nil)
def Linstruction_6a0 : S := (.ret (.tup (.cons (.cst (.str [97, 116, 111, 109, 105, 99])) (.cons (.var 6) (.cons (.var 5) (.cons (.var 4) (.cons (.call 34 (.cons (.var 0) .nil)) .nil)))))))
def Linstruction_6a_t0 : SL := .cons Linstruction_6a0 .nil
def Linstruction_6 : S := (.ifs (.cmp .eq (.var 3) (.cst (.int (2))))
 Linstruction_6a_t0
 .nil)
def Linstruction_7a0 : S := (.ret (.tup (.cons (.cst (.str [98, 97, 114, 114, 105, 101, 114])) (.cons (.call 27 (.cons (.var 0) (.cons (.cst (.int (2))) .nil))) .nil))))
def Linstruction_7a_t0 : SL := .cons Linstruction_7a0 .nil
def Linstruction_7 : S := (.ifs (.cmp .eq (.var 3) (.cst (.int (3))))
 Linstruction_7a_t0
 .nil)
def Linstruction_8a0 : S := (.ret (.tup (.cons (.cst (.str [99, 111, 108, 108, 101, 99, 116])) (.cons (.var 6) (.cons (.call 34 (.cons (.var 0) .nil)) (.cons (.var 4) (.cons (.call 27 (.cons (.var 0) (.cons (.cst (.int (2))) .nil))) .nil)))))))
def Linstruction_8a_t0 : SL := .cons Linstruction_8a0 .nil
def Linstruction_8 : S := (.ifs (.cmp .eq (.var 3) (.cst (.int (4))))
 Linstruction_8a_t0
 .nil)
def Linstruction_9a0 : S := (.ret (.tup (.cons (.cst (.str [106, 117, 109, 112])) (.cons (.call 27 (.cons (.var 0) (.cons (.var 1) .nil))) .nil))))
def Linstruction_9a_t0 : SL := .cons Linstruction_9a0 .nil
def Linstruction_9 : S := (.ifs (.cmp .eq (.var 3) (.cst (.int (5))))
 Linstruction_9a_t0
 .nil)
def Linstruction_10a0 : S := (.ret (.tup (.cons (.cst (.str [98, 114, 97, 110, 99, 104])) (.cons (.var 4) (.cons (.call 27 (.cons (.var 0) (.cons (.var 1) .nil))) (.cons (.call 27 (.cons (.var 0) (.cons (.bop .add (.var 1) (.cst (.int (1)))) .nil))) .nil))))))
def Linstruction_10a_t0 : SL := .cons Linstruction_10a0 .nil
def Linstruction_10 : S := (.ifs (.cmp .lt (.var 3) (.cst (.int (9))))
 Linstruction_10a_t0
 .nil)
def Linstruction_11a0 : S := (.ret (.tup (.cons (.cst (.str [101, 120, 105, 116])) .nil)))
def Linstruction_11a_t0 : SL := .cons Linstruction_11a0 .nil
def Linstruction_11 : S := (.ifs (.and (.cmp .eq (.var 3) (.cst (.int (9)))) (.cmp .eq (.call 27 (.cons (.var 0) (.cons (.cst (.int (3))) .nil))) (.cst (.int (0)))))
 Linstruction_11a_t0
 .nil)
def Linstruction_12 : S := (.ret (.call 35 (.cons (.var 0) (.cons (.var 2) .nil))))
def Linstruction_t12 : SL := .cons Linstruction_12 .nil
def Linstruction_t11 : SL := .cons Linstruction_11 Linstruction_t12
def Linstruction_t10 : SL := .cons Linstruction_10 Linstruction_t11
def Linstruction_t9 : SL := .cons Linstruction_9 Linstruction_t10
def Linstruction_t8 : SL := .cons Linstruction_8 Linstruction_t9
def Linstruction_t7 : SL := .cons Linstruction_7 Linstruction_t8
def Linstruction_t6 : SL := .cons Linstruction_6 Linstruction_t7
def Linstruction_t5 : SL := .cons Linstruction_5 Linstruction_t6
def Linstruction_t4 : SL := .cons Linstruction_4 Linstruction_t5
def Linstruction_t3 : SL := .cons Linstruction_3 Linstruction_t4
def Linstruction_t2 : SL := .cons Linstruction_2 Linstruction_t3
def Linstruction_t1 : SL := .cons Linstruction_1 Linstruction_t2
def Linstruction_t0 : SL := .cons Linstruction_0 Linstruction_t1
def b36 : SL := Linstruction_t0
/-! _law_code -/
def Lcode_0 : S := (.asg (.nm 1) (.bop .add (.cst (.int (3))) (.call 27 (.cons (.var 0) (.cons (.cst (.int (12))) .nil)))))
def Lcode_1 : S := (.asg (.nm 2) (.idx (.lst (.cons (.cst (.int (0))) (.cons (.cst (.int (1))) (.cons (.cst (.int (2))) (.cons (.cst (.int (6))) .nil))))) (.call 27 (.cons (.var 0) (.cons (.cst (.int (4))) .nil)))))
def Lcode_2 : S := (.asg (.nm 3) (.lst (.cons (.tup (.cons (.cst (.str [115, 112, 101, 99, 105, 97, 108])) (.cons (.cst (.int (1))) (.cons (.cst (.str [116, 105, 100])) .nil)))) .nil)))
def Lcode_3f0 : S := (.expr (.mth .append (.var 3) (.cons (.call 36 (.cons (.var 0) (.cons (.var 1) (.cons (.var 2) .nil)))) .nil)))
def Lcode_3f_t0 : SL := .cons Lcode_3f0 .nil
def Lcode_3 : S := (.for_ (.nm 4) (.rng1 (.bop .sub (.var 1) (.cst (.int (2)))))
 Lcode_3f_t0)
def Lcode_4 : S := (.expr (.mth .append (.var 3) (.cons (.idx (.lst (.cons (.tup (.cons (.cst (.str [101, 120, 105, 116])) .nil)) (.cons (.tup (.cons (.cst (.str [101, 120, 105, 116])) .nil)) (.cons (.tup (.cons (.cst (.str [106, 117, 109, 112])) (.cons (.call 27 (.cons (.var 0) (.cons (.var 1) .nil))) .nil))) .nil)))) (.call 27 (.cons (.var 0) (.cons (.cst (.int (3))) .nil)))) .nil)))
def Lcode_5 : S := (.asg (.nm 5) (.tup (.cons (.tup (.cons (.cst (.str [97])) (.cons (.cst (.str [98, 117, 102, 102, 101, 114])) .nil))) (.cons (.tup (.cons (.cst (.str [110])) (.cons (.cst (.str [105, 110, 116])) .nil))) (.cons (.tup (.cons (.cst (.str [98])) (.cons (.cst (.str [98, 117, 102, 102, 101, 114])) .nil))) (.cons (.tup (.cons (.cst (.str [109])) (.cons (.cst (.str [105, 110, 116])) .nil))) (.cons (.tup (.cons (.cst (.str [111])) (.cons (.cst (.str [105, 110, 116])) .nil))) .nil)))))))
def Lcode_6 : S := (.ret (.tup (.cons (.var 5) (.cons (.tup (.cons (.tup (.cons (.cst (.str [115])) (.cons (.cst (.int (3))) .nil))) (.cons (.tup (.cons (.cst (.str [116])) (.cons (.cst (.int (1))) .nil))) (.cons (.tup (.cons (.cst (.str [117])) (.cons (.cst (.int (16))) .nil))) .nil)))) (.cons (.var 2) (.cons (.bt .tuple (.var 3)) .nil))))))
def Lcode_t6 : SL := .cons Lcode_6 .nil
def Lcode_t5 : SL := .cons Lcode_5 Lcode_t6
def Lcode_t4 : SL := .cons Lcode_4 Lcode_t5
def Lcode_t3 : SL := .cons Lcode_3 Lcode_t4
def Lcode_t2 : SL := .cons Lcode_2 Lcode_t3
def Lcode_t1 : SL := .cons Lcode_1 Lcode_t2
def Lcode_t0 : SL := .cons Lcode_0 Lcode_t1
def b37 : SL := Lcode_t0
/-! _law_started -/
def Lstarted_0 : S := (.asg (.nm 1) (.bs .tuple (.comp [6] (.nm 6) (.rng1 (.call 27 (.cons (.var 0) (.cons (.cst (.int (7))) .nil)))) (.cst (.bl true)) (.bop .sub (.call 27 (.cons (.var 0) (.cons (.cst (.int (9))) .nil))) (.cst (.int (3)))))))
def Lstarted_1 : S := (.asg (.nm 2) (.shi (.tup (.cons (.var 1) (.cons (.tup (.cons (.cst (.int (1))) (.cons (.cst (.int (2))) (.cons (.cst (.int (3))) .nil)))) (.cons (.tup .nil) (.cons (.bop .mul (.tup (.cons (.cst (.int (4))) .nil)) (.cst (.int (5)))) .nil))))) (.bop .add (.cst (.int (1))) (.call 27 (.cons (.var 0) (.cons (.cst (.int (4))) .nil))))))
def Lstarted_2 : S := (.asg (.nm 3) (.b1 .len (.var 2)))
def Lstarted_3 : S := (.asg (.nm 4) (.tup (.cons (.call 27 (.cons (.var 0) (.cons (.var 3) .nil))) (.cons (.bop .sub (.call 27 (.cons (.var 0) (.cons (.cst (.int (5))) .nil))) (.cst (.int (1)))) (.cons (.call 27 (.cons (.var 0) (.cons (.var 3) .nil))) (.cons (.cst (.int (7))) (.cons (.neg (.cst (.int (9)))) .nil)))))))
def Lstarted_4 : S := (.asg (.nm 5) (.bop .add (.cst (.int (1))) (.call 27 (.cons (.var 0) (.cons (.idx (.lst (.cons (.cst (.int (4))) (.cons (.cst (.int (8))) .nil))) (.call 27 (.cons (.var 0) (.cons (.cst (.int (2))) .nil)))) .nil)))))
def Lstarted_5 : S := (.ret (.tup (.cons (.bop .add (.cst (.int (1))) (.call 27 (.cons (.var 0) (.cons (.idx (.lst (.cons (.cst (.int (3))) (.cons (.cst (.int (4))) .nil))) (.call 27 (.cons (.var 0) (.cons (.cst (.int (2))) .nil)))) .nil)))) (.cons (.var 5) (.cons (.var 4) (.cons (.var 2) .nil))))))
def Lstarted_t5 : SL := .cons Lstarted_5 .nil
def Lstarted_t4 : SL := .cons Lstarted_4 Lstarted_t5
def Lstarted_t3 : SL := .cons Lstarted_3 Lstarted_t4
def Lstarted_t2 : SL := .cons Lstarted_2 Lstarted_t3
def Lstarted_t1 : SL := .cons Lstarted_1 Lstarted_t2
def Lstarted_t0 : SL := .cons Lstarted_0 Lstarted_t1
def b38 : SL := Lstarted_t0
/-! _law_first -/
def Lfirst_0 : S := (.ret (.tup (.cons (.cst (.int (0))) (.cons (.bop .mul (.tup (.cons (.cst (.int (0))) .nil)) (.cst (.int (8)))) (.cons (.bop .mul (.tup (.cons (.cst (.int (0))) .nil)) (.idx (.var 0) (.cst (.int (2))))) .nil)))))
def Lfirst_t0 : SL := .cons Lfirst_0 .nil
def b39 : SL := Lfirst_t0
/-! _law_request -/
def Lrequest_0 : S := (.asg (.nm 2) (.idx (.idx (.var 0) (.cst (.int (3)))) (.idx (.var 1) (.cst (.int (0))))))
def Lrequest_1 : S := (.asg (.nm 3) (.idx (.var 1) (.cst (.int (1)))))
def Lrequest_2a0 : S := (.ret (.tup (.cons (.cst (.str [108, 111, 97, 100])) (.cons (.idx (.var 2) (.cst (.int (2)))) (.cons (.idx (.var 3) (.idx (.var 2) (.cst (.int (3))))) .nil)))))
def Lrequest_2a_t0 : SL := .cons Lrequest_2a0 .nil
def Lrequest_2 : S := (.ifs (.cmp .eq (.idx (.var 2) (.cst (.int (0)))) (.cst (.str [108, 111, 97, 100])))
 Lrequest_2a_t0
 .nil)
def Lrequest_3a0 : S := (.ret (.tup (.cons (.cst (.str [115, 116, 111, 114, 101])) (.cons (.idx (.var 2) (.cst (.int (1)))) (.cons (.idx (.var 3) (.idx (.var 2) (.cst (.int (2))))) (.cons (.idx (.var 3) (.idx (.var 2) (.cst (.int (3))))) .nil))))))
def Lrequest_3a_t0 : SL := .cons Lrequest_3a0 .nil
def Lrequest_3 : S := (.ifs (.cmp .eq (.idx (.var 2) (.cst (.int (0)))) (.cst (.str [115, 116, 111, 114, 101])))
 Lrequest_3a_t0
 .nil)
def Lrequest_4a0 : S := (.ret (.tup (.cons (.cst (.str [97, 116, 111, 109, 105, 99])) (.cons (.idx (.var 2) (.cst (.int (1)))) (.cons (.idx (.var 2) (.cst (.int (2)))) (.cons (.idx (.var 3) (.idx (.var 2) (.cst (.int (3))))) (.cons (.idx (.var 3) (.idx (.var 2) (.cst (.int (4))))) .nil)))))))
def Lrequest_4a_t0 : SL := .cons Lrequest_4a0 .nil
def Lrequest_4 : S := (.ifs (.cmp .eq (.idx (.var 2) (.cst (.int (0)))) (.cst (.str [97, 116, 111, 109, 105, 99])))
 Lrequest_4a_t0
 .nil)
def Lrequest_5a0 : S := (.ret (.tup (.cons (.cst (.str [99, 111, 108, 108, 101, 99, 116])) (.cons (.idx (.var 2) (.cst (.int (1)))) (.cons (.idx (.var 3) (.idx (.var 2) (.cst (.int (3))))) (.cons (.idx (.var 2) (.cst (.int (4)))) .nil))))))
def Lrequest_5a_t0 : SL := .cons Lrequest_5a0 .nil
def Lrequest_5 : S := (.ifs (.cmp .eq (.idx (.var 2) (.cst (.int (0)))) (.cst (.str [99, 111, 108, 108, 101, 99, 116])))
 Lrequest_5a_t0
 .nil)
def Lrequest_6a0 : S := (.ret (.var 2))
def Lrequest_6a_t0 : SL := .cons Lrequest_6a0 .nil
def Lrequest_6 : S := (.ifs (.cmp .in_ (.idx (.var 2) (.cst (.int (0)))) (.tup (.cons (.cst (.str [98, 97, 114, 114, 105, 101, 114])) (.cons (.cst (.str [101, 120, 105, 116])) .nil))))
 Lrequest_6a_t0
 .nil)
def Lrequest_7 : S := (.ret (.tup (.cons (.cst (.str [110, 111, 110, 101])) .nil)))
def Lrequest_t7 : SL := .cons Lrequest_7 .nil
def Lrequest_t6 : SL := .cons Lrequest_6 Lrequest_t7
def Lrequest_t5 : SL := .cons Lrequest_5 Lrequest_t6
def Lrequest_t4 : SL := .cons Lrequest_4 Lrequest_t5
def Lrequest_t3 : SL := .cons Lrequest_3 Lrequest_t4
def Lrequest_t2 : SL := .cons Lrequest_2 Lrequest_t3
def Lrequest_t1 : SL := .cons Lrequest_1 Lrequest_t2
def Lrequest_t0 : SL := .cons Lrequest_0 Lrequest_t1
def b40 : SL := Lrequest_t0
/-! _law_written -/
def Lwritten_0 : S := (.asg (.nm 5) (.idx (.var 1) (.cst (.int (1)))))
def Lwritten_1a0 : S := (.ret (.idx (.var 0) (.cst (.int (2)))))
def Lwritten_1a_t0 : SL := .cons Lwritten_1a0 .nil
def Lwritten_1 : S := (.ifs (.cmp .eq (.idx (.var 0) (.cst (.int (0)))) (.cst (.str [119, 111, 114, 100])))
 Lwritten_1a_t0
 .nil)
def Lwritten_2a0 : S := (.ret (.idx (.idx (.var 2) (.cst (.int (2)))) (.idx (.var 0) (.cst (.int (2))))))
def Lwritten_2a_t0 : SL := .cons Lwritten_2a0 .nil
def Lwritten_2 : S := (.ifs (.cmp .eq (.idx (.var 0) (.cst (.int (0)))) (.cst (.str [112, 97, 114, 97, 109])))
 Lwritten_2a_t0
 .nil)
def Lwritten_3a0 : S := (.asg (.nm 6) (.bop .fdiv (.var 3) (.idx (.var 2) (.cst (.int (1))))))
def Lwritten_3a1 : S := (.asg (.nm 7) (.dnew (.cons (.cst (.str [116, 105, 100])) (.cons (.bop .sub (.var 3) (.bop .mul (.var 6) (.idx (.var 2) (.cst (.int (1)))))) (.cons (.cst (.str [98, 105, 100])) (.cons (.var 6) (.cons (.cst (.str [100, 105, 109])) (.cons (.idx (.var 2) (.cst (.int (1)))) (.cons (.cst (.str [103, 114, 105, 100])) (.cons (.idx (.var 2) (.cst (.int (0)))) .nil))))))))))
def Lwritten_3a2 : S := (.ret (.idx (.var 7) (.idx (.var 0) (.cst (.int (2))))))
def Lwritten_3a_t2 : SL := .cons Lwritten_3a2 .nil
def Lwritten_3a_t1 : SL := .cons Lwritten_3a1 Lwritten_3a_t2
def Lwritten_3a_t0 : SL := .cons Lwritten_3a0 Lwritten_3a_t1
def Lwritten_3 : S := (.ifs (.cmp .eq (.idx (.var 0) (.cst (.int (0)))) (.cst (.str [115, 112, 101, 99, 105, 97, 108])))
 Lwritten_3a_t0
 .nil)
def Lwritten_4a0 : S := (.ret (.idx (.var 5) (.idx (.var 0) (.cst (.int (2))))))
def Lwritten_4a_t0 : SL := .cons Lwritten_4a0 .nil
def Lwritten_4 : S := (.ifs (.cmp .eq (.idx (.var 0) (.cst (.int (0)))) (.cst (.str [99, 111, 112, 121])))
 Lwritten_4a_t0
 .nil)
def Lwritten_5a0 : S := (.ret (.call 33 (.cons (.idx (.var 0) (.cst (.int (1)))) (.cons (.idx (.var 5) (.idx (.var 0) (.cst (.int (3))))) .nil))))
def Lwritten_5a_t0 : SL := .cons Lwritten_5a0 .nil
def Lwritten_5 : S := (.ifs (.cmp .eq (.idx (.var 0) (.cst (.int (0)))) (.cst (.str [117, 110, 97, 114, 121])))
 Lwritten_5a_t0
 .nil)
def Lwritten_6a0 : S := (.ret (.call 32 (.cons (.idx (.var 0) (.cst (.int (1)))) (.cons (.idx (.var 5) (.idx (.var 0) (.cst (.int (3))))) (.cons (.idx (.var 5) (.idx (.var 0) (.cst (.int (4))))) .nil)))))
def Lwritten_6a_t0 : SL := .cons Lwritten_6a0 .nil
def Lwritten_6 : S := (.ifs (.cmp .eq (.idx (.var 0) (.cst (.int (0)))) (.cst (.str [98, 105, 110, 97, 114, 121])))
 Lwritten_6a_t0
 .nil)
def Lwritten_7a0 : S := (.ret (.idx (.idx (.var 1) (.cst (.int (2)))) (.idx (.var 0) (.cst (.int (2))))))
def Lwritten_7a_t0 : SL := .cons Lwritten_7a0 .nil
def Lwritten_7 : S := (.ifs (.cmp .eq (.idx (.var 0) (.cst (.int (0)))) (.cst (.str [103, 101, 116])))
 Lwritten_7a_t0
 .nil)
def Lwritten_8 : S := (.ret (.var 4))
def Lwritten_t8 : SL := .cons Lwritten_8 .nil
def Lwritten_t7 : SL := .cons Lwritten_7 Lwritten_t8
def Lwritten_t6 : SL := .cons Lwritten_6 Lwritten_t7
def Lwritten_t5 : SL := .cons Lwritten_5 Lwritten_t6
def Lwritten_t4 : SL := .cons Lwritten_4 Lwritten_t5
def Lwritten_t3 : SL := .cons Lwritten_3 Lwritten_t4
def Lwritten_t2 : SL := .cons Lwritten_2 Lwritten_t3
def Lwritten_t1 : SL := .cons Lwritten_1 Lwritten_t2
def Lwritten_t0 : SL := .cons Lwritten_0 Lwritten_t1
def b41 : SL := Lwritten_t0
/-! _law_behind -/
def Lbehind_0 : S := (.asg (.nm 5) (.idx (.idx (.var 0) (.cst (.int (3)))) (.idx (.var 3) (.cst (.int (0))))))
def Lbehind_1 : S := (.asg (.nm 6) (.bt .list (.idx (.var 3) (.cst (.int (1))))))
def Lbehind_2 : S := (.asg (.nm 7) (.bt .list (.idx (.var 3) (.cst (.int (2))))))
def Lbehind_3 : S := (.asg (.nm 8) (.bop .add (.idx (.var 3) (.cst (.int (0)))) (.cst (.int (1)))))
def Lbehind_4a0 : S := (.ret (.var 3))
def Lbehind_4a_t0 : SL := .cons Lbehind_4a0 .nil
def Lbehind_4 : S := (.ifs (.cmp .eq (.idx (.var 5) (.cst (.int (0)))) (.cst (.str [101, 120, 105, 116])))
 Lbehind_4a_t0
 .nil)
def Lbehind_5a0 : S := (.asg (.nm 8) (.idx (.var 5) (.cst (.int (1)))))
def Lbehind_5a_t0 : SL := .cons Lbehind_5a0 .nil
def Lbehind_5b0a0a0 : S := (.asg (.nm 8) (.idx (.var 5) (.cst (.int (2)))))
def Lbehind_5b0a0a_t0 : SL := .cons Lbehind_5b0a0a0 .nil
def Lbehind_5b0a0 : S := (.ifs (.cmp .ne (.idx (.var 6) (.idx (.var 5) (.cst (.int (1))))) (.cst (.int (0))))
 Lbehind_5b0a0a_t0
 .nil)
def Lbehind_5b0a_t0 : SL := .cons Lbehind_5b0a0 .nil
def Lbehind_5b0b0a0 : S := (.put (.var 7) (.idx (.var 5) (.cst (.int (1)))) (.idx (.var 6) (.idx (.var 5) (.cst (.int (2))))))
def Lbehind_5b0b0a_t0 : SL := .cons Lbehind_5b0b0a0 .nil
def Lbehind_5b0b0b0a0 : S := (.put (.var 6) (.idx (.var 5) (.cst (.int (2)))) (.call 41 (.cons (.var 5) (.cons (.var 3) (.cons (.var 1) (.cons (.var 2) (.cons (.var 4) .nil)))))))
def Lbehind_5b0b0b0a_t0 : SL := .cons Lbehind_5b0b0b0a0 .nil
def Lbehind_5b0b0b0b0a0 : S := (.put (.var 6) (.idx (.var 5) (.cst (.int (1)))) (.call 41 (.cons (.var 5) (.cons (.var 3) (.cons (.var 1) (.cons (.var 2) (.cons (.var 4) .nil)))))))
def Lbehind_5b0b0b0b0a_t0 : SL := .cons Lbehind_5b0b0b0b0a0 .nil
def Lbehind_5b0b0b0b0 : S := (.ifs (.cmp .notin (.idx (.var 5) (.cst (.int (0)))) (.tup (.cons (.cst (.str [115, 116, 111, 114, 101])) (.cons (.cst (.str [97, 116, 111, 109, 105, 99])) (.cons (.cst (.str [98, 97, 114, 114, 105, 101, 114])) .nil)))))
 Lbehind_5b0b0b0b0a_t0
 .nil)
def Lbehind_5b0b0b0b_t0 : SL := .cons Lbehind_5b0b0b0b0 .nil
def Lbehind_5b0b0b0 : S := (.ifs (.cmp .in_ (.idx (.var 5) (.cst (.int (0)))) (.tup (.cons (.cst (.str [117, 110, 97, 114, 121])) (.cons (.cst (.str [98, 105, 110, 97, 114, 121])) (.cons (.cst (.str [99, 111, 108, 108, 101, 99, 116])) .nil)))))
 Lbehind_5b0b0b0a_t0
 Lbehind_5b0b0b0b_t0)
def Lbehind_5b0b0b_t0 : SL := .cons Lbehind_5b0b0b0 .nil
def Lbehind_5b0b0 : S := (.ifs (.cmp .eq (.idx (.var 5) (.cst (.int (0)))) (.cst (.str [107, 101, 101, 112])))
 Lbehind_5b0b0a_t0
 Lbehind_5b0b0b_t0)
def Lbehind_5b0b_t0 : SL := .cons Lbehind_5b0b0 .nil
def Lbehind_5b0 : S := (.ifs (.cmp .eq (.idx (.var 5) (.cst (.int (0)))) (.cst (.str [98, 114, 97, 110, 99, 104])))
 Lbehind_5b0a_t0
 Lbehind_5b0b_t0)
def Lbehind_5b_t0 : SL := .cons Lbehind_5b0 .nil
def Lbehind_5 : S := (.ifs (.cmp .eq (.idx (.var 5) (.cst (.int (0)))) (.cst (.str [106, 117, 109, 112])))
 Lbehind_5a_t0
 Lbehind_5b_t0)
def Lbehind_6 : S := (.ret (.tup (.cons (.var 8) (.cons (.bt .tuple (.var 6)) (.cons (.bt .tuple (.var 7)) .nil)))))
def Lbehind_t6 : SL := .cons Lbehind_6 .nil
def Lbehind_t5 : SL := .cons Lbehind_5 Lbehind_t6
def Lbehind_t4 : SL := .cons Lbehind_4 Lbehind_t5
def Lbehind_t3 : SL := .cons Lbehind_3 Lbehind_t4
def Lbehind_t2 : SL := .cons Lbehind_2 Lbehind_t3
def Lbehind_t1 : SL := .cons Lbehind_1 Lbehind_t2
def Lbehind_t0 : SL := .cons Lbehind_0 Lbehind_t1
def b42 : SL := Lbehind_t0
def T : Tbl := ⟨[⟨1, 1, b0⟩, ⟨1, 1, b1⟩, ⟨1, 2, b2⟩, ⟨2, 3, b3⟩, ⟨3, 3, b4⟩, ⟨3, 3, b5⟩, ⟨3, 3, b6⟩, ⟨3, 4, b7⟩, ⟨2, 2, b8⟩, ⟨3, 6, b9⟩, ⟨1, 1, b10⟩, ⟨2, 7, b11⟩, ⟨3, 3, b12⟩, ⟨5, 7, b13⟩, ⟨5, 12, b14⟩, ⟨1, 2, b15⟩, ⟨2, 2, b16⟩, ⟨1, 1, b17⟩, ⟨1, 2, b18⟩, ⟨1, 2, b19⟩, ⟨2, 4, b20⟩, ⟨2, 2, b21⟩, ⟨2, 2, b22⟩, ⟨3, 4, b23⟩, ⟨2, 4, b24⟩, ⟨1, 3, b25⟩, ⟨1, 3, b26⟩, ⟨2, 3, b27⟩, ⟨1, 2, b28⟩, ⟨1, 1, b29⟩, ⟨3, 9, b30⟩, ⟨3, 4, b31⟩, ⟨3, 5, b32⟩, ⟨2, 2, b33⟩, ⟨1, 1, b34⟩, ⟨2, 6, b35⟩, ⟨3, 7, b36⟩, ⟨1, 6, b37⟩, ⟨1, 7, b38⟩, ⟨1, 1, b39⟩, ⟨2, 4, b40⟩, ⟨5, 8, b41⟩, ⟨5, 9, b42⟩], cls.map (·.2)⟩
theorem at0 : T.fns[0]? = some ⟨1, 1, Fis_whole_t0⟩ := rfl
theorem at1 : T.fns[1]? = some ⟨1, 1, Fis_word_t0⟩ := rfl
theorem at2 : T.fns[2]? = some ⟨1, 2, Fwrapped_t0⟩ := rfl
theorem at3 : T.fns[3]? = some ⟨2, 3, Fdivided_t0⟩ := rfl
theorem at4 : T.fns[4]? = some ⟨3, 3, Farithmetic_t0⟩ := rfl
theorem at5 : T.fns[5]? = some ⟨3, 3, Fbits_t0⟩ := rfl
theorem at6 : T.fns[6]? = some ⟨3, 3, Fcompared_t0⟩ := rfl
theorem at7 : T.fns[7]? = some ⟨3, 4, Fbinary_t0⟩ := rfl
theorem at8 : T.fns[8]? = some ⟨2, 2, Funary_t0⟩ := rfl
theorem at9 : T.fns[9]? = some ⟨3, 6, Fspecial_t0⟩ := rfl
theorem at10 : T.fns[10]? = some ⟨1, 1, Ffirst_lane_t0⟩ := rfl
theorem at11 : T.fns[11]? = some ⟨2, 7, Frequest_t0⟩ := rfl
theorem at12 : T.fns[12]? = some ⟨3, 3, Fchanged_t0⟩ := rfl
theorem at13 : T.fns[13]? = some ⟨5, 7, Fresult_t0⟩ := rfl
theorem at14 : T.fns[14]? = some ⟨5, 12, Fbehind_t0⟩ := rfl
theorem at15 : T.fns[15]? = some ⟨1, 2, Fis_name_t0⟩ := rfl
theorem at16 : T.fns[16]? = some ⟨2, 2, Fis_one_of_t0⟩ := rfl
theorem at17 : T.fns[17]? = some ⟨1, 1, Fis_pair_t0⟩ := rfl
theorem at18 : T.fns[18]? = some ⟨1, 2, Fare_params_t0⟩ := rfl
theorem at19 : T.fns[19]? = some ⟨1, 2, Fare_shared_t0⟩ := rfl
theorem at20 : T.fns[20]? = some ⟨2, 4, Fhave_names_t0⟩ := rfl
theorem at21 : T.fns[21]? = some ⟨2, 2, Fis_below_t0⟩ := rfl
theorem at22 : T.fns[22]? = some ⟨2, 2, Fis_array_t0⟩ := rfl
theorem at23 : T.fns[23]? = some ⟨3, 4, Fis_part_t0⟩ := rfl
theorem at24 : T.fns[24]? = some ⟨2, 4, Fis_instruction_t0⟩ := rfl
theorem at25 : T.fns[25]? = some ⟨1, 3, Fcheck_code_t0⟩ := rfl
theorem at26 : T.fns[26]? = some ⟨1, 3, Lstream_t0⟩ := rfl
theorem at27 : T.fns[27]? = some ⟨2, 3, Ldraw_t0⟩ := rfl
theorem at28 : T.fns[28]? = some ⟨1, 2, Lword_t0⟩ := rfl
theorem at29 : T.fns[29]? = some ⟨1, 1, Lwrapped_t0⟩ := rfl
theorem at30 : T.fns[30]? = some ⟨3, 9, Lbits_t0⟩ := rfl
theorem at31 : T.fns[31]? = some ⟨3, 4, Lshifted_t0⟩ := rfl
theorem at32 : T.fns[32]? = some ⟨3, 5, Lbinary_t0⟩ := rfl
theorem at33 : T.fns[33]? = some ⟨2, 2, Lunary_t0⟩ := rfl
theorem at34 : T.fns[34]? = some ⟨1, 1, Lregister_t0⟩ := rfl
theorem at35 : T.fns[35]? = some ⟨2, 6, Lplain_instruction_t0⟩ := rfl
theorem at36 : T.fns[36]? = some ⟨3, 7, Linstruction_t0⟩ := rfl
theorem at37 : T.fns[37]? = some ⟨1, 6, Lcode_t0⟩ := rfl
theorem at38 : T.fns[38]? = some ⟨1, 7, Lstarted_t0⟩ := rfl
theorem at39 : T.fns[39]? = some ⟨1, 1, Lfirst_t0⟩ := rfl
theorem at40 : T.fns[40]? = some ⟨2, 4, Lrequest_t0⟩ := rfl
theorem at41 : T.fns[41]? = some ⟨5, 8, Lwritten_t0⟩ := rfl
theorem at42 : T.fns[42]? = some ⟨5, 9, Lbehind_t0⟩ := rfl
/-! law -/
def Flaw_0 : S := (.asg (.nm 1) (.call 26 (.cons (.var 0) .nil)))
def Flaw_1 : S := (.asg (.nm 2) (.call 37 (.cons (.var 1) .nil)))
def Flaw_2 : S := (.asg (.nm 3) (.call 38 (.cons (.var 1) .nil)))
def Flaw_3a0 : S := (.ret (.cst (.bl false)))
def Flaw_3a_t0 : SL := .cons Flaw_3a0 .nil
def Flaw_3 : S := (.ifs (.or (.cmp .isnot (.call 25 (.cons (.var 2) .nil)) (.cst .non)) (.cmp .ne (.call 10 (.cons (.var 2) .nil)) (.call 39 (.cons (.var 2) .nil))))
 Flaw_3a_t0
 .nil)
def Flaw_4 : S := (.asg (.nm 4) (.tup (.cons (.call 27 (.cons (.var 1) (.cons (.b1 .len (.idx (.var 2) (.cst (.int (3))))) .nil))) (.cons (.bs .tuple (.comp [6] (.nm 6) (.rng1 (.cst (.int (8)))) (.cst (.bl true)) (.call 28 (.cons (.var 1) .nil)))) (.cons (.bs .tuple (.comp [6] (.nm 6) (.rng1 (.idx (.var 2) (.cst (.int (2))))) (.cst (.bl true)) (.call 28 (.cons (.var 1) .nil)))) .nil)))))
def Flaw_5 : S := (.asg (.nm 5) (.call 27 (.cons (.var 1) (.cons (.bop .mul (.idx (.var 3) (.cst (.int (0)))) (.idx (.var 3) (.cst (.int (1))))) .nil))))
def Flaw_6f0a0 : S := (.ret (.cst (.bl false)))
def Flaw_6f0a_t0 : SL := .cons Flaw_6f0a0 .nil
def Flaw_6f0 : S := (.ifs (.cmp .ne (.call 11 (.cons (.var 2) (.cons (.var 4) .nil))) (.call 40 (.cons (.var 2) (.cons (.var 4) .nil))))
 Flaw_6f0a_t0
 .nil)
def Flaw_6f1 : S := (.asg (.nm 7) (.call 28 (.cons (.var 1) .nil)))
def Flaw_6f2 : S := (.asg (.nm 8) (.call 42 (.cons (.var 2) (.cons (.var 3) (.cons (.var 5) (.cons (.var 4) (.cons (.var 7) .nil)))))))
def Flaw_6f3 : S := (.asg (.nm 9) (.call 14 (.cons (.var 2) (.cons (.var 3) (.cons (.var 5) (.cons (.var 4) (.cons (.var 7) .nil)))))))
def Flaw_6f4a0 : S := (.ret (.cst (.bl false)))
def Flaw_6f4a_t0 : SL := .cons Flaw_6f4a0 .nil
def Flaw_6f4 : S := (.ifs (.or (.not (.isi (.var 9) .tuple)) (.cmp .ne (.var 9) (.var 8)))
 Flaw_6f4a_t0
 .nil)
def Flaw_6f5a0 : S := (.ret (.cst (.bl false)))
def Flaw_6f5a_t0 : SL := .cons Flaw_6f5a0 .nil
def Flaw_6f5 : S := (.ifs (.bs .any (.comp [10] (.nm 10) (.seq (.bop .add (.bop .add (.bop .add (.shi (.var 9) (.cst (.int (1)))) (.idx (.var 9) (.cst (.int (1))))) (.idx (.var 9) (.cst (.int (2))))) (.call 11 (.cons (.var 2) (.cons (.var 4) .nil))))) (.cst (.bl true)) (.isi (.var 10) .bool)))
 Flaw_6f5a_t0
 .nil)
def Flaw_6f6 : S := (.asg (.nm 4) (.var 8))
def Flaw_6f_t6 : SL := .cons Flaw_6f6 .nil
def Flaw_6f_t5 : SL := .cons Flaw_6f5 Flaw_6f_t6
def Flaw_6f_t4 : SL := .cons Flaw_6f4 Flaw_6f_t5
def Flaw_6f_t3 : SL := .cons Flaw_6f3 Flaw_6f_t4
def Flaw_6f_t2 : SL := .cons Flaw_6f2 Flaw_6f_t3
def Flaw_6f_t1 : SL := .cons Flaw_6f1 Flaw_6f_t2
def Flaw_6f_t0 : SL := .cons Flaw_6f0 Flaw_6f_t1
def Flaw_6 : S := (.for_ (.nm 6) (.rng1 (.cst (.int (6))))
 Flaw_6f_t0)
def Flaw_7 : S := (.ret (.cst (.bl true)))
def Flaw_t7 : SL := .cons Flaw_7 .nil
def Flaw_t6 : SL := .cons Flaw_6 Flaw_t7
def Flaw_t5 : SL := .cons Flaw_5 Flaw_t6
def Flaw_t4 : SL := .cons Flaw_4 Flaw_t5
def Flaw_t3 : SL := .cons Flaw_3 Flaw_t4
def Flaw_t2 : SL := .cons Flaw_2 Flaw_t3
def Flaw_t1 : SL := .cons Flaw_1 Flaw_t2
def Flaw_t0 : SL := .cons Flaw_0 Flaw_t1
def blaw : SL := Flaw_t0
theorem g_ok : g.ok = true := by kernel_rfl
theorem T_eq : T = g.tab := by kernel_rfl
theorem law_c : g.compT flaw = some blaw := by kernel_rfl
end Kx
namespace Kx
open Dl PySem
local macro_rules
  | `(tactic| exists $es,*) => `(tactic| simp [ev, evl, tst, its, src, ex, Tg.putS, Tg.put, $[$es:term],*])
theorem draw_to {k : Nat} {z : SS} {r : G} {m : Int} {Q : W → G → Prop} {X : Nat → G → Prop} (hm : 0 < m) (hl : m.natAbs < 2 ^ 100) (H : ∀ v z', 0 ≤ v → v < m → Q (.int v) (hp z' r)) : (callN T (k + 1) 27 [.ref 1, .int m] (hp z r)).To Q X := by
  have hl := log_of hl
  have h97 : Nat.log2 97 < 9000 := by decide +kernel
  have hk2 : smallI 48271 = true := small_of (by decide)
  refine call_To at27 rfl ?_
  have draws : ∀ z1 : SS, (exs T (callN T k) Ldraw_t1 [some (.ref 1), some (.int m), none] (hp z1 r)).To (fin (hp z r) Q) (fun c _ g' => X c (gc (hp z r) .non g')) := by
    intro ⟨ns, p, a, mx, ip, ia, im0, im⟩
    have hk3 : smallI mx = true := small_of (by omega)
    by_cases c1 : p = 0
    · subst c1
      have := H ((mx * 48271 + 11) % 2147483647 / 97 % m) ⟨ns, 0, a, (mx * 48271 + 11) % 2147483647, ip, ia, by omega, by omega⟩ (Int.emod_nonneg _ (by omega)) (Int.emod_lt_of_pos _ hm)
      rw [← gc_hp0 (z := z) (w := .int _)] at this
      simpa [Ldraw_0a0, Ldraw_0a1, Ldraw_0a_t1, Ldraw_0a_t0, Ldraw_0, Ldraw_1a0, Ldraw_1a1, Ldraw_1a_t1, Ldraw_1a_t0, Ldraw_1, Ldraw_2, Ldraw_3, Ldraw_4, Ldraw_t4, Ldraw_t3, Ldraw_t2, Ldraw_t1, Ldraw_t0, ex, ev, evl, tst, R.of, R.bind, RS.of, Bop.run, Bop.runI, Cop.run, truthW, hp, atW, eqW, scal2, seqb, B1.run, ixW, hk2, hk3, hm, h97, Tg.putS, -gc_hp_self] using this
    · have := H (p % m) ⟨ns, p / m, a, mx, Int.ediv_nonneg ip (by omega), ia, im0, im⟩ (Int.emod_nonneg _ (by omega)) (Int.emod_lt_of_pos _ hm)
      rw [← gc_hp0 (z := z) (w := .int _)] at this
      simpa [Ldraw_0a0, Ldraw_0a1, Ldraw_0a_t1, Ldraw_0a_t0, Ldraw_0, Ldraw_1a0, Ldraw_1a1, Ldraw_1a_t1, Ldraw_1a_t0, Ldraw_1, Ldraw_2, Ldraw_3, Ldraw_4, Ldraw_t4, Ldraw_t3, Ldraw_t2, Ldraw_t1, Ldraw_t0, ex, ev, evl, tst, R.of, R.bind, RS.of, Bop.run, Bop.runI, Cop.run, truthW, hp, atW, eqW, scal2, seqb, B1.run, ixW, hl, hm, beq_eq_false_iff_ne.mpr c1, Tg.putS, -gc_hp_self] using this
  show RS.To (exs T (callN T k) (.cons Ldraw_0 Ldraw_t1) [some (.ref 1), some (.int m), none] (hp z r)) _ _
  rw [seq_To]
  suffices h : ∃ z1, ex T (callN T k) Ldraw_0 [some (.ref 1), some (.int m), none] (hp z r) = .go .nx [some (.ref 1), some (.int m), none] (hp z1 r) by
    obtain ⟨z1, e⟩ := h
    rw [e]
    exact draws z1
  obtain ⟨ns, p, a, mx, ip, ia, im0, im⟩ := z
  by_cases c1 : p = 0
  · subst c1
    by_cases c2 : a < ns.length
    · have c3 : a.toNat < ns.length := by omega
      refine ⟨⟨ns, if ns[a.toNat] < 0 then -ns[a.toNat] else ns[a.toNat], a + 1, mx, by split <;> omega, by omega, im0, im⟩, ?_⟩
      simp [Ldraw_0a0, Ldraw_0a1, Ldraw_0a_t1, Ldraw_0a_t0, Ldraw_0, Ldraw_1a0, Ldraw_1a1, Ldraw_1a_t1, Ldraw_1a_t0, Ldraw_1, Ldraw_2, Ldraw_3, Ldraw_4, Ldraw_t4, Ldraw_t3, Ldraw_t2, Ldraw_t1, Ldraw_t0, exs, ex, ev, evl, tst, RS.of, R.bind, R.of, RS.andThen, Bop.run, Bop.runI, Cop.run, truthW, hp, atW, eqW, scal2, seqb, B1.run, ixW, c2, ia, c3]
    · refine ⟨⟨ns, 0, a, mx, ip, ia, im0, im⟩, ?_⟩
      simp [Ldraw_0a0, Ldraw_0a1, Ldraw_0a_t1, Ldraw_0a_t0, Ldraw_0, Ldraw_1a0, Ldraw_1a1, Ldraw_1a_t1, Ldraw_1a_t0, Ldraw_1, Ldraw_2, Ldraw_3, Ldraw_4, Ldraw_t4, Ldraw_t3, Ldraw_t2, Ldraw_t1, Ldraw_t0, exs, ex, ev, evl, tst, RS.of, R.bind, R.of, RS.andThen, Bop.run, Bop.runI, Cop.run, truthW, hp, atW, eqW, scal2, seqb, B1.run, ixW, c2]
  · refine ⟨⟨ns, p, a, mx, ip, ia, im0, im⟩, ?_⟩
    simp [Ldraw_0a0, Ldraw_0a1, Ldraw_0a_t1, Ldraw_0a_t0, Ldraw_0, Ldraw_1a0, Ldraw_1a1, Ldraw_1a_t1, Ldraw_1a_t0, Ldraw_1, Ldraw_2, Ldraw_3, Ldraw_4, Ldraw_t4, Ldraw_t3, Ldraw_t2, Ldraw_t1, Ldraw_t0, exs, ex, ev, evl, tst, RS.of, R.bind, R.of, RS.andThen, Bop.run, Bop.runI, Cop.run, truthW, hp, atW, eqW, scal2, seqb, B1.run, ixW, beq_eq_false_iff_ne.mpr c1]
theorem stream_ok (k : Nat) (ns : List Int) : ∃ z, callN T (k + 1) 26 [.fl (ns.map W.int)] [] = .ok (.ref 1) (hp z []) := by
  have s1 : smallI 48271 = true := small_of (by decide)
  have key : (callN T (k + 1) 26 [.fl (ns.map W.int)] []).To (fun w g => w = .ref 1 ∧ ∃ z, g = hp z []) noX := by
    refine call_To at26 rfl ?_
    show RS.To (exs T (callN T k) (.cons Lstream_0 (.cons Lstream_1 (.cons Lstream_2 .nil))) [some (.fl (ns.map W.int)), none, none] []) _ _
    simp only [seq_To, Lstream_0, Lstream_1, ex, ev, src, RS.of, R.bind, Tg.putS, To_go, nxt_nx, List.set_cons_succ, List.set_cons_zero, List.getElem?_cons_zero, List.getElem?_cons_succ]
    refine forV_To (P := fun ws ρ g => (∀ w ∈ ws, ∃ i, w = .int i) ∧ ∃ v m, ρ = [some (.fl (ns.map W.int)), some (.int m), v] ∧ g = [] ∧ 0 ≤ m ∧ m < 2147483647) ⟨by simp, none, 17, rfl, rfl, by decide, by decide⟩ ?_ ?_
    · rintro w r ρ g ⟨hw, v, m, rfl, rfl, m0, m1⟩
      obtain ⟨i, rfl⟩ := hw w List.mem_cons_self
      have s2 : smallI m = true := small_of (by omega)
      refine ⟨_, rfl, ?_⟩
      simp [Lstream_1f_t0, Lstream_1f0, ex, ev, RS.of, R.bind, R.of, Bop.run, Bop.runI, Tg.putS, B1.run, s1, s2]
      exact ⟨fun w h => hw w (List.mem_cons_of_mem _ h), _, _, ⟨rfl, rfl⟩, by omega, by omega⟩
    · rintro ρ g ⟨_, v, m, rfl, rfl, m0, m1⟩
      have e : gc [] (.ref 1) [.lst (ns.map W.int), .lst [.ref 0, .int 0, .int 0, .int m]] = hp ⟨ns, 0, 0, m, by decide, by decide, m0, m1⟩ [] := gc_up rfl
      simp [Lstream_2, ex, ev, evl, RS.of, R.bind, R.of, lstOf, seqOf, BS.run, e]
      exact ⟨_, rfl⟩
  obtain ⟨w, g, e, rfl, z, rfl⟩ := key.ok
  exact ⟨z, e⟩

end Kx
namespace Dl
open PySem PyProof.Rows
abbrev bA := Builtin.bitAnd
theorem nat_and_step (x y : Nat) : x &&& y = 2 * ((x / 2) &&& (y / 2)) + (x % 2) * (y % 2) := by
  have h1 := Nat.and_div_two_pow (a := x) (b := y) (n := 1)
  have h2 : (x &&& y) % 2 = (x % 2) * (y % 2) := by
    have := Nat.and_mod_two_pow (a := x) (b := y) (n := 1)
    simp at this
    rw [this]
    rcases Nat.mod_two_eq_zero_or_one x with a | a <;> rcases Nat.mod_two_eq_zero_or_one y with b | b <;> rw [a, b] <;> rfl
  simp at h1
  rw [← h1, ← h2]
  omega
theorem and_pp (x y : Int) (hx : 0 ≤ x) (hy : 0 ≤ y) : bA x y = 2 * bA (x / 2) (y / 2) + (x % 2) * (y % 2) := by
  obtain ⟨a, rfl⟩ := Int.eq_ofNat_of_zero_le hx
  obtain ⟨b, rfl⟩ := Int.eq_ofNat_of_zero_le hy
  have e1 : ((a : Int) / 2) = ((a / 2 : Nat) : Int) := by omega
  have e2 : ((b : Int) / 2) = ((b / 2 : Nat) : Int) := by omega
  have e3 : ((a : Int) % 2) = ((a % 2 : Nat) : Int) := by omega
  have e4 : ((b : Int) % 2) = ((b % 2 : Nat) : Int) := by omega
  rw [e1, e2, e3, e4]
  show Builtin.bitAnd _ _ = 2 * Builtin.bitAnd _ _ + _
  rw [bitAnd_pp (by omega) (by omega), bitAnd_pp (by omega) (by omega)]
  simp only [Int.toNat_natCast]
  rw [nat_and_step a b]
  push_cast
  rfl
theorem and_px (x y : Int) (hx : 0 ≤ x) : bA x y = 2 * bA (x / 2) (y / 2) + (x % 2) * (y % 2) := by
  by_cases hy : 0 ≤ y
  · exact and_pp x y hx hy
  · have h := and_pp x (Builtin.bitNot y) hx (by unfold Builtin.bitNot; omega)
    have e1 : Builtin.bitNot y / 2 = Builtin.bitNot (y / 2) := by unfold Builtin.bitNot; omega
    have e2 : Builtin.bitNot y % 2 = 1 - y % 2 := by unfold Builtin.bitNot; omega
    rw [e1, e2] at h
    have h1 := bitAnd_not x y
    have h2 := bitAnd_not (x / 2) (y / 2)
    show Builtin.bitAnd x y = _
    have h3 : bA x (Builtin.bitNot y) = x - bA x y := h1
    have h4 : bA (x / 2) (Builtin.bitNot (y / 2)) = x / 2 - bA (x / 2) (y / 2) := h2
    rw [h3, h4] at h
    have : (x % 2) * (1 - y % 2) = x % 2 - (x % 2) * (y % 2) := by rw [Int.mul_sub, Int.mul_one]
    rw [this] at h
    show bA x y = _
    omega
theorem and_step (x y : Int) : bA x y = 2 * bA (x / 2) (y / 2) + (x % 2) * (y % 2) := by
  by_cases hx : 0 ≤ x
  · exact and_px x y hx
  · by_cases hy : 0 ≤ y
    · have h := and_px y x hy
      show Builtin.bitAnd x y = 2 * Builtin.bitAnd _ _ + _
      rw [bitAnd_comm x y, bitAnd_comm (x / 2) (y / 2), Int.mul_comm (x % 2)]
      exact h
    · have h := and_px (Builtin.bitNot y) x (by unfold Builtin.bitNot; omega)
      have e1 : Builtin.bitNot y / 2 = Builtin.bitNot (y / 2) := by unfold Builtin.bitNot; omega
      have e2 : Builtin.bitNot y % 2 = 1 - y % 2 := by unfold Builtin.bitNot; omega
      rw [e1, e2] at h
      have h3 : bA (Builtin.bitNot y) x = x - bA x y := by rw [show bA (Builtin.bitNot y) x = bA x (Builtin.bitNot y) from bitAnd_comm _ _]; exact bitAnd_not x y
      have h4 : bA (Builtin.bitNot (y / 2)) (x / 2) = x / 2 - bA (x / 2) (y / 2) := by rw [show bA (Builtin.bitNot (y / 2)) (x / 2) = bA (x / 2) (Builtin.bitNot (y / 2)) from bitAnd_comm _ _]; exact bitAnd_not _ _
      rw [h3, h4] at h
      have : (1 - y % 2) * (x % 2) = x % 2 - (x % 2) * (y % 2) := by rw [Int.sub_mul, Int.one_mul, Int.mul_comm (y % 2)]
      rw [this] at h
      omega
theorem bits2 (x y : Int) : (x % 2) * (y % 2) = if x % 2 = 1 ∧ y % 2 = 1 then 1 else 0 := by
  have a : x % 2 = 0 ∨ x % 2 = 1 := by omega
  have b : y % 2 = 0 ∨ y % 2 = 1 := by omega
  rcases a with a | a <;> rcases b with b | b <;> rw [a, b] <;> rfl
theorem or_step (x y : Int) : Builtin.bitOr x y = 2 * Builtin.bitOr (x / 2) (y / 2) + (if y % 2 > x % 2 then y % 2 else x % 2) := by
  rw [bitOr_and, bitOr_and]
  have h := and_step x y
  rw [bits2] at h
  have h' : Builtin.bitAnd x y = 2 * Builtin.bitAnd (x / 2) (y / 2) + _ := h
  rw [h']
  split <;> split <;> omega
theorem xor_step (x y : Int) : Builtin.bitXor x y = 2 * Builtin.bitXor (x / 2) (y / 2) + (if x % 2 = y % 2 then 0 else 1) := by
  rw [bitXor_and, bitXor_and]
  have h := and_step x y
  rw [bits2] at h
  have h' : Builtin.bitAnd x y = 2 * Builtin.bitAnd (x / 2) (y / 2) + _ := h
  rw [h']
  split <;> split <;> omega
/-- n bits of an operation, from below -/
def ls (f : Int → Int → Int) : Nat → Int → Int → Int
  | 0, _, _ => 0
  | n + 1, x, y => f (x % 2) (y % 2) + 2 * ls f n (x / 2) (y / 2)
theorem ls_op {f op : Int → Int → Int} (h : ∀ x y, op x y = 2 * op (x / 2) (y / 2) + f (x % 2) (y % 2)) : ∀ n x y, ∃ z, op x y = ls f n x y + 2 ^ n * z
  | 0, x, y => ⟨op x y, by simp [ls]⟩
  | n + 1, x, y => by
    obtain ⟨z, e⟩ := ls_op h n (x / 2) (y / 2)
    refine ⟨z, ?_⟩
    rw [h x y, e]
    simp only [ls, Int.pow_succ, Int.mul_add]
    have : 2 * (2 ^ n * z) = 2 ^ n * 2 * z := by rw [← Int.mul_assoc, Int.mul_comm 2]
    omega
theorem ls_mod {f : Int → Int → Int} : ∀ n x y, ls f n (x % 2 ^ n) (y % 2 ^ n) = ls f n x y
  | 0, x, y => rfl
  | n + 1, x, y => by
    have k1 : ∀ u : Int, u % 2 ^ (n + 1) % 2 = u % 2 := fun u => by
      rw [Int.pow_succ]
      exact Int.emod_emod_of_dvd u ⟨2 ^ n, by rw [Int.mul_comm]⟩
    have k2 : ∀ u : Int, u % 2 ^ (n + 1) / 2 = u / 2 % 2 ^ n := fun u => by
      have hp : (0 : Int) < 2 ^ n := Int.pow_pos (by decide)
      have a1 := Int.mul_ediv_add_emod (u / 2) (2 ^ n)
      have a2 := Int.emod_nonneg (u / 2) (Int.ne_of_gt hp)
      have a3 := Int.emod_lt_of_pos (u / 2) hp
      have e : u = 2 ^ (n + 1) * (u / 2 / 2 ^ n) + (2 * (u / 2 % 2 ^ n) + u % 2) := by
        rw [Int.pow_succ, Int.mul_comm (2 ^ n) 2, Int.mul_assoc]
        omega
      have e2 : u % 2 ^ (n + 1) = 2 * (u / 2 % 2 ^ n) + u % 2 := by
        rw [Int.pow_succ]
        have := Int.emod_nonneg u (show (2 : Int) ≠ 0 by decide)
        have q : (2 ^ (n + 1) * (u / 2 / 2 ^ n) + (2 * (u / 2 % 2 ^ n) + u % 2)) % (2 ^ n * 2) = 2 * (u / 2 % 2 ^ n) + u % 2 := by
          rw [Int.pow_succ, Int.add_comm, Int.add_mul_emod_self_left]
          exact Int.emod_eq_of_lt (by omega) (by omega)
        rw [← e] at q
        exact q
      rw [e2]
      omega
    simp only [ls, k1, k2, ls_mod n]
def wrapI (n : Int) : Int := if n % 4294967296 > 2147483647 then n % 4294967296 - 4294967296 else n % 4294967296
theorem wrap_ls {f op : Int → Int → Int} (h : ∀ x y, op x y = 2 * op (x / 2) (y / 2) + f (x % 2) (y % 2)) (a b : Int) : wrapI (ls f 32 (a % 4294967296) (b % 4294967296)) = wrapI (op a b) := by
  have e := ls_mod (f := f) 32 a b
  have p : (2 : Int) ^ 32 = 4294967296 := by decide
  rw [p] at e
  rw [e]
  obtain ⟨z, q⟩ := ls_op h 32 a b
  rw [p] at q
  have : op a b % 4294967296 = ls f 32 a b % 4294967296 := by
    rw [q, Int.add_mul_emod_self_left]
  simp only [wrapI, this]
def divI (a b : Int) : Int := if b = 0 then 0 else if (decide (a < 0) != decide (b < 0)) then -((if a < 0 then -a else a) / (if b < 0 then -b else b)) else (if a < 0 then -a else a) / (if b < 0 then -b else b)
theorem divI_eq (a b : Int) (hb : b ≠ 0) : divI a b = if a * b < 0 then 0 - (if a < 0 then -a else a) / (if b < 0 then -b else b) else (if a < 0 then -a else a) / (if b < 0 then -b else b) := by
  unfold divI
  rw [if_neg hb]
  rcases Int.lt_trichotomy a 0 with ha | ha | ha
  · rcases Int.lt_or_gt_of_ne hb with hb | hb
    · have h1 : ¬ a * b < 0 := by have := Int.mul_pos_of_neg_of_neg ha hb; omega
      simp [ha, hb, h1]
    · have h1 : a * b < 0 := Int.mul_neg_of_neg_of_pos ha hb
      have h2 : ¬ b < 0 := by omega
      simp [ha, h2, h1]
  · subst ha
    have z : ∀ x : Int, (0 : Int) / x = 0 := Int.zero_ediv
    by_cases h : b < 0 <;> simp [h, z]
  · have h0 : ¬ a < 0 := by omega
    rcases Int.lt_or_gt_of_ne hb with hb | hb
    · have h1 : a * b < 0 := Int.mul_neg_of_pos_of_neg ha hb
      simp [h0, hb, h1]
    · have h1 : ¬ a * b < 0 := by have := Int.mul_pos ha hb; omega
      have h2 : ¬ b < 0 := by omega
      simp [h0, h2, h1]
def opsL : List (List Nat) := [[97, 100, 100], [115, 117, 98], [109, 117, 108], [100, 105, 118], [114, 101, 109], [97, 110, 100], [111, 114], [120, 111, 114], [115, 104, 108], [115, 104, 114], [108, 116], [108, 101], [101, 113], [110, 101], [109, 105, 110], [109, 97, 120]]
def valI (op : List Nat) (a b : Int) : Int :=
  if op = [97, 100, 100] then a + b else if op = [115, 117, 98] then a - b else if op = [109, 117, 108] then a * b else if op = [100, 105, 118] then divI a b
  else if op = [114, 101, 109] then (if b = 0 then 0 else a - divI a b * b) else if op = [97, 110, 100] then Builtin.bitAnd a b else if op = [111, 114] then Builtin.bitOr a b else if op = [120, 111, 114] then Builtin.bitXor a b
  else if op = [115, 104, 108] then a * 2 ^ (b % 32).toNat else if op = [115, 104, 114] then a / 2 ^ (b % 32).toNat
  else if op = [108, 116] then (if a < b then 1 else 0) else if op = [108, 101] then (if a ≤ b then 1 else 0) else if op = [101, 113] then (if a = b then 1 else 0) else if op = [110, 101] then (if a = b then 0 else 1)
  else if op = [109, 105, 110] then (if b < a then b else a) else (if b > a then b else a)
theorem divI_small {a b : Int} {n : Nat} (ha : a.natAbs < n) : (divI a b).natAbs < n := by
  unfold divI
  by_cases hb : b = 0
  · simp [hb]; omega
  · rw [if_neg hb]
    have hq : ∀ x y : Int, 0 ≤ x → 0 < y → (x / y).natAbs ≤ x.natAbs := by
      intro x y hx hy
      have h1 := Int.ediv_nonneg hx (Int.le_of_lt hy)
      have h2 := Int.ediv_le_self y hx
      omega
    have := hq (if a < 0 then -a else a) (if b < 0 then -b else b) (by split <;> omega) (by split <;> omega)
    have h3 : (if a < 0 then -a else a).natAbs = a.natAbs := by split <;> omega
    split <;> omega
def unL : List (List Nat) := [[110, 101, 103], [110, 111, 116], [122, 101, 114, 111]]
def unI (op : List Nat) (a : Int) : Int := if op = [110, 101, 103] then wrapI (-a) else if op = [110, 111, 116] then wrapI (-a - 1) else if a = 0 then 1 else 0
def Fits (op : List Nat) (f : Int → Int → Int) : Prop := (op = [97, 110, 100] ∧ f = fun u v => u * v) ∨ (op = [111, 114] ∧ f = fun u v => if v > u then v else u) ∨ (op = [120, 111, 114] ∧ f = fun u v => if u = v then 0 else 1)
theorem at_last (g : G) (d : Ob) : (g ++ [d])[g.length]? = some d := by simp
theorem set_last (g : G) (d d' : Ob) : (g ++ [d]).set g.length d' = g ++ [d'] := by simp
theorem gc_int (g x : G) (i : Int) : gc g (.int i) (g ++ x) = g := gc_app rfl
/-! ### words -/
def IsWord (n : Int) : Prop := -2147483648 ≤ n ∧ n ≤ 2147483647
instance (n : Int) : Decidable (IsWord n) := by unfold IsWord; infer_instance
theorem wrap_word (n : Int) : IsWord (wrapI n) := by unfold wrapI IsWord; split <;> omega
theorem wrap_id {n : Int} (h : IsWord n) : wrapI n = n := by unfold IsWord at h; unfold wrapI; split <;> omega
theorem wrap_mod (n : Int) : wrapI n % 4294967296 = n % 4294967296 := by unfold wrapI; split <;> omega
theorem wrap_congr {a b : Int} (h : a % 4294967296 = b % 4294967296) : wrapI a = wrapI b := by unfold wrapI; rw [h]
/-- an operator's word -/
def opI (op : List Nat) (a b : Int) : Int := wrapI (valI op a b)
def foldL : List (List Nat) := [[97, 100, 100], [109, 105, 110], [109, 97, 120], [97, 110, 100], [111, 114], [120, 111, 114]]
def neutI (op : List Nat) : Int := if op = [109, 105, 110] then 2147483647 else if op = [109, 97, 120] then -2147483648 else if op = [97, 110, 100] then -1 else 0
/-- bits alone -/
theorem ls_comm {f : Int → Int → Int} (hf : ∀ a b, f a b = f b a) : ∀ n x y, ls f n x y = ls f n y x
  | 0, _, _ => rfl
  | n + 1, x, y => by simp only [ls]; rw [hf, ls_comm hf n]
theorem ls_bit {f : Int → Int → Int} (h01 : ∀ a b : Int, (a = 0 ∨ a = 1) → (b = 0 ∨ b = 1) → (f a b = 0 ∨ f a b = 1)) (n : Nat) (x y : Int) : ls f (n + 1) x y % 2 = f (x % 2) (y % 2) ∧ ls f (n + 1) x y / 2 = ls f n (x / 2) (y / 2) := by
  have := h01 (x % 2) (y % 2) (by omega) (by omega)
  simp only [ls]
  omega
theorem ls_assoc {f : Int → Int → Int} (h01 : ∀ a b : Int, (a = 0 ∨ a = 1) → (b = 0 ∨ b = 1) → (f a b = 0 ∨ f a b = 1)) (ha : ∀ a b c : Int, (a = 0 ∨ a = 1) → (b = 0 ∨ b = 1) → (c = 0 ∨ c = 1) → f (f a b) c = f a (f b c)) : ∀ n x y z, ls f n (ls f n x y) z = ls f n x (ls f n y z)
  | 0, _, _, _ => rfl
  | n + 1, x, y, z => by
    rw [show ls f (n + 1) (ls f (n + 1) x y) z = f (ls f (n + 1) x y % 2) (z % 2) + 2 * ls f n (ls f (n + 1) x y / 2) (z / 2) from rfl, show ls f (n + 1) x (ls f (n + 1) y z) = f (x % 2) (ls f (n + 1) y z % 2) + 2 * ls f n (x / 2) (ls f (n + 1) y z / 2) from rfl]
    rw [(ls_bit h01 n x y).1, (ls_bit h01 n x y).2, (ls_bit h01 n y z).1, (ls_bit h01 n y z).2, ls_assoc h01 ha n, ha _ _ _ (by omega) (by omega) (by omega)]
theorem ls_right {f : Int → Int → Int} (e : Int) (hf : ∀ a : Int, (a = 0 ∨ a = 1) → f a (e % 2) = a) (he : e / 2 = e) : ∀ n x, ls f n x e = x % 2 ^ n
  | 0, x => by simp [ls]
  | n + 1, x => by
    simp only [ls]
    rw [hf _ (by omega), he, ls_right e hf he n]
    have hp : (0 : Int) < 2 ^ n := Int.pow_pos (by decide)
    have a1 := Int.mul_ediv_add_emod (x / 2) (2 ^ n)
    have a2 := Int.emod_nonneg (x / 2) (Int.ne_of_gt hp)
    have a3 := Int.emod_lt_of_pos (x / 2) hp
    have e1 : x = 2 ^ (n + 1) * (x / 2 / 2 ^ n) + (2 * (x / 2 % 2 ^ n) + x % 2) := by
      rw [Int.pow_succ, Int.mul_comm (2 ^ n) 2, Int.mul_assoc]
      omega
    have e2 : (2 ^ (n + 1) * (x / 2 / 2 ^ n) + (2 * (x / 2 % 2 ^ n) + x % 2)) % (2 ^ n * 2) = 2 * (x / 2 % 2 ^ n) + x % 2 := by
      rw [Int.pow_succ, Int.add_comm, Int.add_mul_emod_self_left]
      exact Int.emod_eq_of_lt (by omega) (by omega)
    rw [← e1] at e2
    rw [Int.pow_succ, e2]
    omega
theorem ls_cong {f : Int → Int → Int} {a b a' b' : Int} (h : a % 4294967296 = a' % 4294967296) (h2 : b % 4294967296 = b' % 4294967296) : ls f 32 a b = ls f 32 a' b' := by
  have e := ls_mod (f := f) 32 a b
  have e2 := ls_mod (f := f) 32 a' b'
  have p : (2 : Int) ^ 32 = 4294967296 := by decide
  rw [p] at e e2
  rw [← e, ← e2, h, h2]
theorem op_ls {f op : Int → Int → Int} (h : ∀ x y, op x y = 2 * op (x / 2) (y / 2) + f (x % 2) (y % 2)) (a b : Int) : wrapI (op a b) = wrapI (ls f 32 a b) := by
  rw [← wrap_ls h a b]
  congr 1
  exact ls_cong (by omega) (by omega)
structure Nice (f : Int → Int → Int) (e : Int) : Prop where
  c : ∀ a b, f a b = f b a
  h01 : ∀ a b : Int, (a = 0 ∨ a = 1) → (b = 0 ∨ b = 1) → (f a b = 0 ∨ f a b = 1)
  a : ∀ a b c : Int, (a = 0 ∨ a = 1) → (b = 0 ∨ b = 1) → (c = 0 ∨ c = 1) → f (f a b) c = f a (f b c)
  e1 : ∀ a : Int, (a = 0 ∨ a = 1) → f a (e % 2) = a
  e2 : e / 2 = e
theorem nice_and : Nice (fun u v => u * v) (-1) := ⟨fun a b => Int.mul_comm a b, by rintro a b (rfl | rfl) (rfl | rfl) <;> decide, fun a b c _ _ _ => Int.mul_assoc a b c, by rintro a (rfl | rfl) <;> decide, by decide⟩
theorem nice_or : Nice (fun u v => if v > u then v else u) 0 := ⟨fun a b => by show (if b > a then b else a) = if a > b then a else b; split <;> split <;> omega, by rintro a b (rfl | rfl) (rfl | rfl) <;> decide, by rintro a b c (rfl | rfl) (rfl | rfl) (rfl | rfl) <;> decide, by rintro a (rfl | rfl) <;> decide, by decide⟩
theorem nice_xor : Nice (fun u v => if u = v then 0 else 1) 0 := ⟨fun a b => by show (if a = b then (0 : Int) else 1) = if b = a then 0 else 1; split <;> split <;> omega, by rintro a b (rfl | rfl) (rfl | rfl) <;> decide, by rintro a b c (rfl | rfl) (rfl | rfl) (rfl | rfl) <;> decide, by rintro a (rfl | rfl) <;> decide, by decide⟩
theorem bits_fold {f op : Int → Int → Int} {e : Int} (h : ∀ x y, op x y = 2 * op (x / 2) (y / 2) + f (x % 2) (y % 2)) (N : Nice f e) : (∀ a b, wrapI (op a b) = wrapI (op b a)) ∧ (∀ a b c, wrapI (op (wrapI (op a b)) c) = wrapI (op a (wrapI (op b c)))) ∧ ∀ a, IsWord a → wrapI (op a e) = a := by
  have k := op_ls h
  refine ⟨fun a b => ?_, fun a b c => ?_, fun a ha => ?_⟩
  · rw [k, k, ls_comm N.c]
  · simp only [k]
    rw [ls_cong (wrap_mod (ls f 32 a b)) rfl, ls_cong (a := a) rfl (wrap_mod (ls f 32 b c)), ls_assoc N.h01 N.a]
  · rw [k, ls_right e N.e1 N.e2, wrap_congr (b := a) (by omega), wrap_id ha]
/-- the operators that fold: in any order -/
theorem op_fold : ∀ op ∈ foldL, (∀ a b, opI op a b = opI op b a) ∧ (∀ a b c, IsWord a → IsWord b → IsWord c → opI op (opI op a b) c = opI op a (opI op b c)) ∧ ∀ a, IsWord a → opI op a (neutI op) = a := by
  intro op hop
  simp only [foldL, List.mem_cons, List.not_mem_nil, or_false] at hop
  rcases hop with rfl | rfl | rfl | rfl | rfl | rfl
  · refine ⟨fun a b => ?_, fun a b c ha hb hc => ?_, fun a ha => ?_⟩
    · show wrapI (a + b) = wrapI (b + a); rw [Int.add_comm]
    · show wrapI (wrapI (a + b) + c) = wrapI (a + wrapI (b + c))
      apply wrap_congr
      have := wrap_mod (a + b); have := wrap_mod (b + c)
      omega
    · show wrapI (a + 0) = a; rw [Int.add_zero, wrap_id ha]
  · refine ⟨fun a b => ?_, fun a b c ha hb hc => ?_, fun a ha => ?_⟩
    · show wrapI (if b < a then b else a) = wrapI (if a < b then a else b)
      congr 1; split <;> split <;> omega
    · show wrapI (if c < wrapI (if b < a then b else a) then c else wrapI (if b < a then b else a)) = wrapI (if wrapI (if c < b then c else b) < a then wrapI (if c < b then c else b) else a)
      rw [wrap_id (n := if b < a then b else a) (by split <;> assumption), wrap_id (n := if c < b then c else b) (by split <;> assumption)]
      congr 1; (repeat' split) <;> omega
    · show wrapI (if 2147483647 < a then 2147483647 else a) = a
      rw [if_neg (by unfold IsWord at ha; omega), wrap_id ha]
  · refine ⟨fun a b => ?_, fun a b c ha hb hc => ?_, fun a ha => ?_⟩
    · show wrapI (if b > a then b else a) = wrapI (if a > b then a else b)
      congr 1; split <;> split <;> omega
    · show wrapI (if c > wrapI (if b > a then b else a) then c else wrapI (if b > a then b else a)) = wrapI (if wrapI (if c > b then c else b) > a then wrapI (if c > b then c else b) else a)
      rw [wrap_id (n := if b > a then b else a) (by split <;> assumption), wrap_id (n := if c > b then c else b) (by split <;> assumption)]
      congr 1; (repeat' split) <;> omega
    · show wrapI (if -2147483648 > a then -2147483648 else a) = a
      rw [if_neg (by unfold IsWord at ha; omega), wrap_id ha]
  · obtain ⟨x, y, z⟩ := bits_fold and_step nice_and
    exact ⟨x, fun a b c _ _ _ => y a b c, z⟩
  · obtain ⟨x, y, z⟩ := bits_fold or_step nice_or
    exact ⟨x, fun a b c _ _ _ => y a b c, z⟩
  · obtain ⟨x, y, z⟩ := bits_fold xor_step nice_xor
    exact ⟨x, fun a b c _ _ _ => y a b c, z⟩
theorem op_word (op : List Nat) (a b : Int) : IsWord (opI op a b) := wrap_word _
theorem word_small {a : Int} (h : IsWord a) : a.natAbs < 2 ^ 40 := by unfold IsWord at h; omega
theorem fold_word {op : List Nat} : ∀ (l : List Int) (a : Int), IsWord a → IsWord (l.foldl (opI op) a)
  | [], _, h => h
  | x :: r, a, h => fold_word r _ (op_word op a x)
theorem neut_word (op : List Nat) : IsWord (neutI op) := by unfold neutI; split; (first | decide | (split; decide; split <;> decide)); split <;> first | decide | (split <;> decide)
/-- the fold's order -/
theorem fold_perm {op : List Nat} (hop : op ∈ foldL) : ∀ {l l' : List Int}, l.Perm l' → (∀ x ∈ l, IsWord x) → ∀ a, IsWord a → l.foldl (opI op) a = l'.foldl (opI op) a := by
  intro l l' h
  obtain ⟨c, as, _⟩ := op_fold op hop
  induction h with
  | nil => intro _ _ _; rfl
  | cons x h ih => intro hw a ha; exact ih (fun y hy => hw y (List.mem_cons_of_mem _ hy)) _ (op_word op a x)
  | swap x y l =>
    intro hw a ha
    simp only [List.foldl_cons]
    congr 1
    have hx := hw x (by simp)
    have hy := hw y (by simp)
    rw [as a y x ha hy hx, as a x y ha hx hy, c x y]
  | trans h1 h2 ih1 ih2 => intro hw a ha; rw [ih1 hw a ha, ih2 (fun y hy => hw y (h1.mem_iff.mpr hy)) a ha]
end Dl

namespace Kx
open Dl PySem
local macro_rules
  | `(tactic| exists $es,*) => `(tactic| simp [ev, evl, tst, its, src, ex, Tg.putS, Tg.put, $[$es:term],*])
theorem c_wrapped (k : Nat) (n : Int) (g : G) : callN T (k + 1) 2 [.int n] g = .ok (.int (wrapI n)) g := by
  show Fn.run T (callN T k) ⟨1, 2, Fwrapped_t0⟩ [.int n] g = _
  simp [Fn.run, Fwrapped_0, Fwrapped_1a0, Fwrapped_1a_t0, Fwrapped_1, Fwrapped_2, Fwrapped_t2, Fwrapped_t1, Fwrapped_t0, exs, ex, ev, tst, RS.of, R.bind, R.of, RS.andThen, startE, Bop.run, Bop.runI, Cop.run, Tg.putS, truthW, wrapI]
  by_cases h : 2147483647 < n % 4294967296
  · simp [h, gc_self]
  · simp [h, gc_self]
theorem c_divided (k : Nat) (a b : Int) (g : G) (hb : b.natAbs < 2 ^ 100) : callN T (k + 1) 3 [.int a, .int b] g = .ok (.int (divI a b)) g := by
  show Fn.run T (callN T k) ⟨2, 3, Fdivided_t0⟩ [.int a, .int b] g = _
  by_cases hz : b = 0
  · subst hz
    simp [Fn.run, Fdivided_0a0, Fdivided_0a_t0, Fdivided_0, Fdivided_1, Fdivided_2a0, Fdivided_2a_t0, Fdivided_2, Fdivided_3, Fdivided_t3, Fdivided_t2, Fdivided_t1, Fdivided_t0, exs, ex, ev, tst, RS.of, R.bind, R.of, RS.andThen, startE, Bop.run, Bop.runI, Cop.run, Tg.putS, truthW, B1.run, eqW, scal2, seqb, gc_self, divI]
  · have hz' : (b == 0) = false := beq_eq_false_iff_ne.mpr hz
    have hl : (if b < 0 then -b else b).natAbs.log2 < 9000 := log_of (by split <;> omega)
    have hp : 0 < (if b < 0 then -b else b) := by split <;> omega
    simp [Fn.run, Fdivided_0a0, Fdivided_0a_t0, Fdivided_0, Fdivided_1, Fdivided_2a0, Fdivided_2a_t0, Fdivided_2, Fdivided_3, Fdivided_t3, Fdivided_t2, Fdivided_t1, Fdivided_t0, exs, ex, ev, tst, RS.of, R.bind, R.of, RS.andThen, startE, Bop.run, Bop.runI, Cop.run, Tg.putS, truthW, B1.run, eqW, scal2, seqb, hz', hl, hp, divI, hz]
    by_cases c1 : a < 0 <;> by_cases c2 : b < 0 <;> simp [c1, c2, gc_self]
theorem u_arithmetic (k : Nat) (ws : List W) (g : G) : callN T (k + 1) 4 ws g = Fn.run T (callN T k) ⟨3, 3, Farithmetic_t0⟩ ws g := by rfl
theorem u_bits (k : Nat) (ws : List W) (g : G) : callN T (k + 1) 5 ws g = Fn.run T (callN T k) ⟨3, 3, Fbits_t0⟩ ws g := by rfl
theorem u_compared (k : Nat) (ws : List W) (g : G) : callN T (k + 1) 6 ws g = Fn.run T (callN T k) ⟨3, 3, Fcompared_t0⟩ ws g := by rfl
theorem u_binary (k : Nat) (ws : List W) (g : G) : callN T (k + 1) 7 ws g = Fn.run T (callN T k) ⟨3, 4, Fbinary_t0⟩ ws g := by rfl
theorem c_binary (k : Nat) (a b : Int) (g : G) (ha : a.natAbs < 2 ^ 40) (hb : b.natAbs < 2 ^ 40) : ∀ op ∈ opsL, callN T (k + 4) 7 [.str op, .int a, .int b] g = .ok (.int (wrapI (valI op a b))) g := by
  have hb' : b.natAbs < 2 ^ 100 := by omega
  have d0 := fun g => c_divided (k + 1) a b g hb'
  have w0 := fun n g => c_wrapped (k + 2) n g
  have s1 := small_of (n := a) (by omega)
  have s2 := small_of (n := b) (by omega)
  have s3 := small_of (n := divI a b) (divI_small (by omega))
  have l1 : a.natAbs < 2 ^ 64 := by omega
  have m1 : 0 ≤ b % 32 ∧ b % 32 ≤ 1000000 ∧ a.natAbs < 2 ^ 64 := by omega
  have m2 : 0 ≤ b % 32 := by omega
  have c2 := u_arithmetic (k + 2)
  have c3 := u_bits (k + 2)
  have c4 := u_compared (k + 2)
  intro op hop
  rw [u_binary]
  simp only [opsL, List.mem_cons, List.not_mem_nil, or_false] at hop
  rcases hop with rfl | rfl | rfl | rfl | rfl | rfl | rfl | rfl | rfl | rfl | rfl | rfl | rfl | rfl | rfl | rfl
  all_goals
    simp only [Fn.run, Fbinary_0, Fbinary_1a0, Fbinary_1a_t0, Fbinary_1, Fbinary_2a0, Fbinary_2a_t0, Fbinary_2, Fbinary_3, Fbinary_t3, Fbinary_t2, Fbinary_t1, Fbinary_t0, exs, ex, ev, evl, tst, R.bind, RS.of, c2, c3, c4]
    simp [Fn.run, Farithmetic_0a0, Farithmetic_0a_t0, Farithmetic_0, Farithmetic_1a0, Farithmetic_1a_t0, Farithmetic_1, Farithmetic_2a0, Farithmetic_2a_t0, Farithmetic_2, Farithmetic_3a0, Farithmetic_3a_t0, Farithmetic_3, Farithmetic_4a0a0, Farithmetic_4a0a_t0, Farithmetic_4a0, Farithmetic_4a1, Farithmetic_4a_t1, Farithmetic_4a_t0, Farithmetic_4, Farithmetic_5, Farithmetic_t5, Farithmetic_t4, Farithmetic_t3, Farithmetic_t2, Farithmetic_t1, Farithmetic_t0, Fbits_0a0, Fbits_0a_t0, Fbits_0, Fbits_1a0, Fbits_1a_t0, Fbits_1, Fbits_2a0, Fbits_2a_t0, Fbits_2, Fbits_3a0, Fbits_3a_t0, Fbits_3, Fbits_4a0, Fbits_4a_t0, Fbits_4, Fbits_5, Fbits_t5, Fbits_t4, Fbits_t3, Fbits_t2, Fbits_t1, Fbits_t0, Fcompared_0a0, Fcompared_0a_t0, Fcompared_0, Fcompared_1a0, Fcompared_1a_t0, Fcompared_1, Fcompared_2a0, Fcompared_2a_t0, Fcompared_2, Fcompared_3a0, Fcompared_3a_t0, Fcompared_3, Fcompared_4a0, Fcompared_4a_t0, Fcompared_4, Fcompared_5, Fcompared_t5, Fcompared_t4, Fcompared_t3, Fcompared_t2, Fcompared_t1, Fcompared_t0, exs, ex, ev, evl, tst, RS.of, R.bind, R.of, RS.andThen, startE, Bop.run, Bop.runI, Cop.run, Tg.putS, truthW, B1.run, eqW, scal2, seqb, gc_self, s1, s2, s3, m1, m2, d0, w0, valI]
    try (by_cases hz : b = 0
         · simp [hz, gc_self, w0]
         · have hz' : (b == 0) = false := beq_eq_false_iff_ne.mpr hz
           simp [hz, hz', gc_self, s3, d0, w0, s2])

end Kx
namespace Kx
open Dl PySem
local macro_rules
  | `(tactic| exists $es,*) => `(tactic| simp [ev, evl, tst, its, src, ex, Tg.putS, Tg.put, $[$es:term],*])
theorem c_lwrapped (k : Nat) (n : Int) (g : G) : callN T (k + 1) 29 [.int n] g = .ok (.int (wrapI n)) g := by
  show Fn.run T (callN T k) ⟨1, 1, Lwrapped_t0⟩ [.int n] g = _
  have h1 : smallI 4294967296 = true := small_of (by decide)
  have h2 : smallI 1 = true := small_of (by decide)
  have h3 : smallI 0 = true := small_of (by decide)
  simp [Fn.run, Lwrapped_0, Lwrapped_1, Lwrapped_t1, Lwrapped_t0, exs, ex, ev, tst, RS.of, R.bind, R.of, RS.andThen, startE, Bop.run, Bop.runI, Cop.run, Tg.putS, truthW, wrapI, B1.run]
  by_cases h : 2147483647 < n % 4294967296
  · simp [h, gc_self, h1, h2]
  · simp [h, gc_self, h1, h3]
theorem turn11 (call : CallF) {op : List Nat} {f : Int → Int → Int} (hf : Fits op f) (x y t p : Int) (v5 v6 v7 v8 : Option W) (g : G) (hp : p.natAbs < 2 ^ 40) :
    ∃ d, exs T call Lbits_4f_t0 [some (.str op), some (.int x), some (.int y), some (.int t), some (.int p), v5, v6, v7, v8] g = .go .nx [some (.str op), some (.int (x / 2)), some (.int (y / 2)), some (.int (t + p * f (x % 2) (y % 2))), some (.int (p * 2)), v5, some (.int (x % 2)), some (.int (y % 2)), some (.int (f (x % 2) (y % 2)))] (g ++ [d]) := by
  have h2 : smallI 2 = true := small_of (by decide)
  have h3 : Nat.log2 2 < 9000 := by decide +kernel
  have hx : smallI (x % 2) = true := small_of (by omega)
  have hy : smallI (y % 2) = true := small_of (by omega)
  have hP : smallI p = true := small_of (by omega)
  have a : x % 2 = 0 ∨ x % 2 = 1 := by omega
  have b : y % 2 = 0 ∨ y % 2 = 1 := by omega
  have s0 : smallI 0 = true := small_of (by decide)
  have s1 : smallI 1 = true := small_of (by decide)
  rcases hf with ⟨rfl, rfl⟩ | ⟨rfl, rfl⟩ | ⟨rfl, rfl⟩ <;> refine ⟨.dct [(.str [97, 110, 100], .int ((x % 2) * (y % 2))), (.str [111, 114], .int (if y % 2 > x % 2 then y % 2 else x % 2)), (.str [120, 111, 114], .int (if x % 2 = y % 2 then 0 else 1))], ?_⟩ <;> rcases a with a | a <;> rcases b with b | b <;>
    simp [Lbits_0, Lbits_1, Lbits_2, Lbits_3, Lbits_4f0, Lbits_4f1, Lbits_4f2, Lbits_4f3, Lbits_4f4, Lbits_4f5, Lbits_4f6, Lbits_4f_t6, Lbits_4f_t5, Lbits_4f_t4, Lbits_4f_t3, Lbits_4f_t2, Lbits_4f_t1, Lbits_4f_t0, Lbits_4, Lbits_5, Lbits_t5, Lbits_t4, Lbits_t3, Lbits_t2, Lbits_t1, Lbits_t0, exs, ex, ev, evl, tst, RS.of, R.bind, R.of, RS.andThen, Bop.run, Bop.runI, Cop.run, Tg.putS, truthW, B1.run, eqW, scal2, seqb, pairW, fits, putD, getD, weq, h2, h3, hx, hy, hP, a, b, s0, s1]
theorem loop11 (call : CallF) {op : List Nat} {f : Int → Int → Int} (hf : Fits op f) : ∀ (ws : List W) (x y t p : Int) (v5 v6 v7 v8 : Option W) (g : G), p.natAbs * 2 ^ ws.length < 2 ^ 40 →
    ∃ ρ' j, forV (.nm 5) (exs T call Lbits_4f_t0) ws [some (.str op), some (.int x), some (.int y), some (.int t), some (.int p), v5, v6, v7, v8] g = .go .nx ρ' (g ++ j) ∧ ρ'[3]? = some (some (.int (t + p * ls f ws.length x y)))
  | [], x, y, t, p, v5, v6, v7, v8, g, h => ⟨[some (.str op), some (.int x), some (.int y), some (.int t), some (.int p), v5, v6, v7, v8], [], by simp only [forV, List.append_nil], by simp [ls]⟩
  | w :: ws, x, y, t, p, v5, v6, v7, v8, g, h => by
    have hp : p.natAbs < 2 ^ 40 := by
      have : 1 ≤ 2 ^ (w :: ws).length := Nat.one_le_two_pow
      calc p.natAbs = p.natAbs * 1 := (Nat.mul_one _).symm
        _ ≤ p.natAbs * 2 ^ (w :: ws).length := Nat.mul_le_mul_left _ this
        _ < _ := h
    obtain ⟨d, e⟩ := turn11 call hf x y t p (some w) v6 v7 v8 g hp
    obtain ⟨ρ', j, e1, e2⟩ := loop11 call hf ws (x / 2) (y / 2) (t + p * f (x % 2) (y % 2)) (p * 2) (some w) (some (.int (x % 2))) (some (.int (y % 2))) (some (.int (f (x % 2) (y % 2)))) (g ++ [d]) (by
      rw [Int.natAbs_mul, Nat.mul_assoc]
      rw [List.length_cons, Nat.pow_succ, Nat.mul_comm (2 ^ _) 2] at h
      exact h)
    refine ⟨ρ', [d] ++ j, ?_, ?_⟩
    · simp only [forV, Tg.put, List.set_cons_succ, List.set_cons_zero, e, e1, List.append_assoc]
    · rw [e2]
      simp only [ls, List.length_cons, Int.mul_add]
      congr 3
      rw [Int.mul_assoc]
      omega
def w32 : List W := (List.range 32).map fun (k : Nat) => W.int k
theorem c_lbits (k : Nat) {op : List Nat} {f : Int → Int → Int} (hf : Fits op f) (a b : Int) (g : G) : callN T (k + 1) 30 [.str op, .int a, .int b] g = .ok (.int (ls f 32 (a % 4294967296) (b % 4294967296))) g := by
  obtain ⟨ρ', j, e1, e2⟩ := loop11 (callN T k) hf w32 (a % 4294967296) (b % 4294967296) 0 1 none none none none g (by decide)
  have hl : w32.length = 32 := by simp [w32]
  rw [hl] at e2
  show Fn.run T (callN T k) ⟨3, 9, .cons Lbits_0 (.cons Lbits_1 (.cons Lbits_2 (.cons Lbits_3 (.cons (.for_ (.nm 5) (.rng1 (.cst (.int (32)))) Lbits_4f_t0) (.cons Lbits_5 .nil)))))⟩ [.str op, .int a, .int b] g = _
  have hr : ((List.range 32).map fun (k : Nat) => W.int k) = w32 := rfl
  have hlim : (32 : Int) ≤ lim ∧ -(lim : Int) ≤ 32 := by decide
  simp [Fn.run, Lbits_0, Lbits_1, Lbits_2, Lbits_3, Lbits_5, exs, ex, ev, src, tst, RS.of, R.bind, R.of, RS.andThen, startE, Bop.run, Bop.runI, Tg.putS, B1.run, hr, hlim, e1, e2, gc_int]
theorem shl12 (call : CallF) : ∀ (ws : List W) (a b : Int) (v : Option W) (g : G), a.natAbs * 2 ^ ws.length < 2 ^ 100 →
    ∃ v', forV (.nm 3) (exs T call Lshifted_0f_t0) ws [some (.str [115, 104, 108]), some (.int a), some (.int b), v] g = .go .nx [some (.str [115, 104, 108]), some (.int (a * 2 ^ ws.length)), some (.int b), v'] g
  | [], a, b, v, g, h => ⟨v, by simp [forV]⟩
  | w :: ws, a, b, v, g, h => by
    have ha : a.natAbs < 2 ^ 100 := by
      have : 1 ≤ 2 ^ (w :: ws).length := Nat.one_le_two_pow
      calc a.natAbs = a.natAbs * 1 := (Nat.mul_one _).symm
        _ ≤ a.natAbs * 2 ^ (w :: ws).length := Nat.mul_le_mul_left _ this
        _ < _ := h
    obtain ⟨v', e⟩ := shl12 call ws (a * 2) b (some w) g (by
      rw [Int.natAbs_mul, Nat.mul_assoc]
      rw [List.length_cons, Nat.pow_succ, Nat.mul_comm (2 ^ _) 2] at h
      exact h)
    refine ⟨v', ?_⟩
    have h1 := small_of (n := a) (by omega)
    have h2 : smallI 2 = true := small_of (by decide)
    have e0 : exs T call Lshifted_0f_t0 [some (.str [115, 104, 108]), some (.int a), some (.int b), some w] g = .go .nx [some (.str [115, 104, 108]), some (.int (a * 2)), some (.int b), some w] g := by
      simp [Lshifted_0f0a0, Lshifted_0f0a_t0, Lshifted_0f0b0, Lshifted_0f0b_t0, Lshifted_0f0, Lshifted_0f_t0, Lshifted_0, Lshifted_1, Lshifted_t1, Lshifted_t0, exs, ex, ev, tst, RS.of, R.bind, R.of, RS.andThen, Bop.run, Bop.runI, Cop.run, Tg.putS, truthW, eqW, scal2, seqb, h1, h2]
    simp only [forV, Tg.put, List.set_cons_succ, List.set_cons_zero, e0, e, List.length_cons, Int.pow_succ]
    rw [Int.mul_assoc, Int.mul_comm 2]
theorem shr12 (call : CallF) : ∀ (ws : List W) (a b : Int) (v : Option W) (g : G),
    ∃ v', forV (.nm 3) (exs T call Lshifted_0f_t0) ws [some (.str [115, 104, 114]), some (.int a), some (.int b), v] g = .go .nx [some (.str [115, 104, 114]), some (.int (a / 2 ^ ws.length)), some (.int b), v'] g
  | [], a, b, v, g => ⟨v, by simp [forV]⟩
  | w :: ws, a, b, v, g => by
    obtain ⟨v', e⟩ := shr12 call ws (a / 2) b (some w) g
    refine ⟨v', ?_⟩
    have h3 : Nat.log2 2 < 9000 := by decide +kernel
    have e0 : exs T call Lshifted_0f_t0 [some (.str [115, 104, 114]), some (.int a), some (.int b), some w] g = .go .nx [some (.str [115, 104, 114]), some (.int (a / 2)), some (.int b), some w] g := by
      simp [Lshifted_0f0a0, Lshifted_0f0a_t0, Lshifted_0f0b0, Lshifted_0f0b_t0, Lshifted_0f0, Lshifted_0f_t0, Lshifted_0, Lshifted_1, Lshifted_t1, Lshifted_t0, exs, ex, ev, tst, RS.of, R.bind, R.of, RS.andThen, Bop.run, Bop.runI, Cop.run, Tg.putS, truthW, eqW, scal2, seqb, h3]
    have e9 : a / 2 / 2 ^ ws.length = a / 2 ^ (ws.length + 1) := by
      rw [Int.pow_succ, Int.mul_comm, Int.ediv_ediv_of_nonneg (by decide)]
    simp only [forV, Tg.put, List.set_cons_succ, List.set_cons_zero, e0, e, List.length_cons, e9]
theorem c_lshifted (k : Nat) (a b : Int) (g : G) (ha : a.natAbs < 2 ^ 40) : callN T (k + 1) 31 [.str [115, 104, 108], .int a, .int b] g = .ok (.int (a * 2 ^ (b % 32).toNat)) g ∧ callN T (k + 1) 31 [.str [115, 104, 114], .int a, .int b] g = .ok (.int (a / 2 ^ (b % 32).toNat)) g := by
  have hlim : b % 32 ≤ (lim : Int) ∧ -(lim : Int) ≤ b % 32 := by have : (lim : Int) = 1000000 := rfl; omega
  have hl : ((List.range (b % 32).toNat).map fun (k : Nat) => W.int k).length = (b % 32).toNat := by simp
  obtain ⟨v1, e1⟩ := shl12 (callN T k) ((List.range (b % 32).toNat).map fun (k : Nat) => W.int k) a b none g (by
    rw [hl]
    have h1 : (b % 32).toNat ≤ 32 := by omega
    have h2 : 2 ^ (b % 32).toNat ≤ 2 ^ 32 := Nat.pow_le_pow_right (by decide) h1
    calc _ ≤ a.natAbs * 2 ^ 32 := Nat.mul_le_mul_left _ h2
      _ < 2 ^ 100 := by omega)
  obtain ⟨v2, e2⟩ := shr12 (callN T k) ((List.range (b % 32).toNat).map fun (k : Nat) => W.int k) a b none g
  rw [hl] at e1 e2
  constructor
  · show Fn.run T (callN T k) ⟨3, 4, .cons (.for_ (.nm 3) (.rng1 (.bop .mod (.b1 .int (.var 2)) (.cst (.int (32))))) Lshifted_0f_t0) (.cons Lshifted_1 .nil)⟩ _ g = _
    simp [Lshifted_1, Fn.run, exs, ex, ev, src, tst, RS.of, R.bind, R.of, RS.andThen, startE, Bop.run, Bop.runI, Tg.putS, B1.run, hlim, e1, gc_self]
  · show Fn.run T (callN T k) ⟨3, 4, .cons (.for_ (.nm 3) (.rng1 (.bop .mod (.b1 .int (.var 2)) (.cst (.int (32))))) Lshifted_0f_t0) (.cons Lshifted_1 .nil)⟩ _ g = _
    simp [Lshifted_1, Fn.run, exs, ex, ev, src, tst, RS.of, R.bind, R.of, RS.andThen, startE, Bop.run, Bop.runI, Tg.putS, B1.run, hlim, e2, gc_self]
theorem u_lbinary (k : Nat) (ws : List W) (g : G) : callN T (k + 1) 32 ws g = Fn.run T (callN T k) ⟨3, 5, Lbinary_t0⟩ ws g := by rfl
theorem lb_1 (k : Nat) (a b : Int) (g : G) (w0 : ∀ (n : Int) (g : G), callN T (k + 3) 29 [W.int n] g = R.ok (W.int (wrapI n)) g) (s1 : smallI a = true) (s2 : smallI b = true) : ∀ op ∈ [[97, 100, 100], [115, 117, 98], [109, 117, 108], [108, 116], [108, 101], [101, 113], [110, 101], [109, 105, 110], [109, 97, 120]], callN T (k + 4) 32 [.str op, .int a, .int b] g = .ok (.int (wrapI (valI op a b))) g := by
  intro op hop
  rw [u_lbinary]
  simp only [List.mem_cons, List.not_mem_nil, or_false] at hop
  rcases hop with rfl | rfl | rfl | rfl | rfl | rfl | rfl | rfl | rfl <;>
    simp [Fn.run, Lbinary_0a0a0, Lbinary_0a0a_t0, Lbinary_0a0, Lbinary_0a1, Lbinary_0a2a0, Lbinary_0a2a_t0, Lbinary_0a2, Lbinary_0a3a0, Lbinary_0a3a_t0, Lbinary_0a3, Lbinary_0a4, Lbinary_0a_t4, Lbinary_0a_t3, Lbinary_0a_t2, Lbinary_0a_t1, Lbinary_0a_t0, Lbinary_0, Lbinary_1a0, Lbinary_1a_t0, Lbinary_1, Lbinary_2a0, Lbinary_2a_t0, Lbinary_2, Lbinary_3, Lbinary_4, Lbinary_5, Lbinary_6, Lbinary_7, Lbinary_t7, Lbinary_t6, Lbinary_t5, Lbinary_t4, Lbinary_t3, Lbinary_t2, Lbinary_t1, Lbinary_t0, exs, ex, ev, evl, tst, RS.of, R.bind, R.of, RS.andThen, startE, Bop.run, Bop.runI, Cop.run, Tg.putS, truthW, B1.run, eqW, scal2, seqb, gc_self, gc_int, s1, s2, w0, valI, pairW, fits, putD, getD, weq, at_last, set_last, inW, flatW, show 6 < lim by decide, show 7 < lim by decide, show 8 < lim by decide]
theorem lb_2 (k : Nat) (a b : Int) (g : G) (hb : b.natAbs < 2 ^ 40) (w0 : ∀ (n : Int) (g : G), callN T (k + 3) 29 [W.int n] g = R.ok (W.int (wrapI n)) g) (s1 : smallI a = true) (s2 : smallI b = true) (s3 : smallI (divI a b) = true) : ∀ op ∈ [[100, 105, 118], [114, 101, 109]], callN T (k + 4) 32 [.str op, .int a, .int b] g = .ok (.int (wrapI (valI op a b))) g := by
  have hl : (if b < 0 then -b else b).natAbs.log2 < 9000 := log_of (by split <;> omega)
  have z0 : wrapI 0 = 0 := by decide
  intro op hop
  rw [u_lbinary]
  by_cases hz : b = 0
  · subst hz
    simp only [List.mem_cons, List.not_mem_nil, or_false] at hop
    rcases hop with rfl | rfl <;> simp [Fn.run, Lbinary_0a0a0, Lbinary_0a0a_t0, Lbinary_0a0, Lbinary_0a1, Lbinary_0a2a0, Lbinary_0a2a_t0, Lbinary_0a2, Lbinary_0a3a0, Lbinary_0a3a_t0, Lbinary_0a3, Lbinary_0a4, Lbinary_0a_t4, Lbinary_0a_t3, Lbinary_0a_t2, Lbinary_0a_t1, Lbinary_0a_t0, Lbinary_0, Lbinary_1a0, Lbinary_1a_t0, Lbinary_1, Lbinary_2a0, Lbinary_2a_t0, Lbinary_2, Lbinary_3, Lbinary_4, Lbinary_5, Lbinary_6, Lbinary_7, Lbinary_t7, Lbinary_t6, Lbinary_t5, Lbinary_t4, Lbinary_t3, Lbinary_t2, Lbinary_t1, Lbinary_t0, exs, ex, ev, evl, tst, RS.of, R.bind, R.of, RS.andThen, startE, Bop.run, Bop.runI, Cop.run, Tg.putS, truthW, B1.run, eqW, scal2, seqb, gc_self, gc_int, s1, s2, w0, valI, pairW, fits, putD, getD, weq, at_last, set_last, inW, flatW, show 6 < lim by decide, show 7 < lim by decide, show 8 < lim by decide, z0, divI]
  · have hz' : (b == 0) = false := beq_eq_false_iff_ne.mpr hz
    have hp : 0 < (if b < 0 then -b else b) := by split <;> omega
    rw [divI_eq a b hz] at s3
    simp only [List.mem_cons, List.not_mem_nil, or_false] at hop
    by_cases hm : a * b < 0
    · rw [if_pos hm] at s3
      rcases hop with rfl | rfl <;> simp [Fn.run, Lbinary_0a0a0, Lbinary_0a0a_t0, Lbinary_0a0, Lbinary_0a1, Lbinary_0a2a0, Lbinary_0a2a_t0, Lbinary_0a2, Lbinary_0a3a0, Lbinary_0a3a_t0, Lbinary_0a3, Lbinary_0a4, Lbinary_0a_t4, Lbinary_0a_t3, Lbinary_0a_t2, Lbinary_0a_t1, Lbinary_0a_t0, Lbinary_0, Lbinary_1a0, Lbinary_1a_t0, Lbinary_1, Lbinary_2a0, Lbinary_2a_t0, Lbinary_2, Lbinary_3, Lbinary_4, Lbinary_5, Lbinary_6, Lbinary_7, Lbinary_t7, Lbinary_t6, Lbinary_t5, Lbinary_t4, Lbinary_t3, Lbinary_t2, Lbinary_t1, Lbinary_t0, exs, ex, ev, evl, tst, RS.of, R.bind, R.of, RS.andThen, startE, Bop.run, Bop.runI, Cop.run, Tg.putS, truthW, B1.run, eqW, scal2, seqb, gc_self, gc_int, s1, s2, w0, valI, pairW, fits, putD, getD, weq, at_last, set_last, inW, flatW, show 6 < lim by decide, show 7 < lim by decide, show 8 < lim by decide, hz, hz', hl, hp, hm, divI_eq a b hz]
      simp only [Int.zero_sub] at s3
      simp [s3, w0, gc_self]
    · rw [if_neg hm] at s3
      rcases hop with rfl | rfl <;> simp [Fn.run, Lbinary_0a0a0, Lbinary_0a0a_t0, Lbinary_0a0, Lbinary_0a1, Lbinary_0a2a0, Lbinary_0a2a_t0, Lbinary_0a2, Lbinary_0a3a0, Lbinary_0a3a_t0, Lbinary_0a3, Lbinary_0a4, Lbinary_0a_t4, Lbinary_0a_t3, Lbinary_0a_t2, Lbinary_0a_t1, Lbinary_0a_t0, Lbinary_0, Lbinary_1a0, Lbinary_1a_t0, Lbinary_1, Lbinary_2a0, Lbinary_2a_t0, Lbinary_2, Lbinary_3, Lbinary_4, Lbinary_5, Lbinary_6, Lbinary_7, Lbinary_t7, Lbinary_t6, Lbinary_t5, Lbinary_t4, Lbinary_t3, Lbinary_t2, Lbinary_t1, Lbinary_t0, exs, ex, ev, evl, tst, RS.of, R.bind, R.of, RS.andThen, startE, Bop.run, Bop.runI, Cop.run, Tg.putS, truthW, B1.run, eqW, scal2, seqb, gc_self, gc_int, s1, s2, w0, valI, pairW, fits, putD, getD, weq, at_last, set_last, inW, flatW, show 6 < lim by decide, show 7 < lim by decide, show 8 < lim by decide, hz, hz', hl, hp, hm, divI_eq a b hz, s3]
theorem lb_3 (k : Nat) (a b : Int) (g : G) (ha : a.natAbs < 2 ^ 40) (w0 : ∀ (n : Int) (g : G), callN T (k + 3) 29 [W.int n] g = R.ok (W.int (wrapI n)) g) (s1 : smallI a = true) (s2 : smallI b = true) : ∀ op ∈ [[97, 110, 100], [111, 114], [120, 111, 114], [115, 104, 108], [115, 104, 114]], callN T (k + 4) 32 [.str op, .int a, .int b] g = .ok (.int (wrapI (valI op a b))) g := by
  have sh := fun g => (c_lshifted (k + 2) a b g ha).1
  have sr := fun g => (c_lshifted (k + 2) a b g ha).2
  have ba := fun g => c_lbits (k + 2) (op := [97, 110, 100]) (.inl ⟨rfl, rfl⟩) a b g
  have bo := fun g => c_lbits (k + 2) (op := [111, 114]) (.inr (.inl ⟨rfl, rfl⟩)) a b g
  have bx := fun g => c_lbits (k + 2) (op := [120, 111, 114]) (.inr (.inr ⟨rfl, rfl⟩)) a b g
  have ea := wrap_ls (f := fun u v => u * v) (op := Builtin.bitAnd) and_step a b
  have eo := wrap_ls (f := fun u v => if v > u then v else u) (op := Builtin.bitOr) or_step a b
  have ex' := wrap_ls (f := fun u v => if u = v then 0 else 1) (op := Builtin.bitXor) xor_step a b
  intro op hop
  rw [u_lbinary]
  simp only [List.mem_cons, List.not_mem_nil, or_false] at hop
  rcases hop with rfl | rfl | rfl | rfl | rfl
  · have q : valI [97, 110, 100] a b = Builtin.bitAnd a b := rfl
    rw [q, ← ea]
    simp [Fn.run, Lbinary_0a0a0, Lbinary_0a0a_t0, Lbinary_0a0, Lbinary_0a1, Lbinary_0a2a0, Lbinary_0a2a_t0, Lbinary_0a2, Lbinary_0a3a0, Lbinary_0a3a_t0, Lbinary_0a3, Lbinary_0a4, Lbinary_0a_t4, Lbinary_0a_t3, Lbinary_0a_t2, Lbinary_0a_t1, Lbinary_0a_t0, Lbinary_0, Lbinary_1a0, Lbinary_1a_t0, Lbinary_1, Lbinary_2a0, Lbinary_2a_t0, Lbinary_2, Lbinary_3, Lbinary_4, Lbinary_5, Lbinary_6, Lbinary_7, Lbinary_t7, Lbinary_t6, Lbinary_t5, Lbinary_t4, Lbinary_t3, Lbinary_t2, Lbinary_t1, Lbinary_t0, exs, ex, ev, evl, tst, RS.of, R.bind, R.of, RS.andThen, startE, Bop.run, Bop.runI, Cop.run, Tg.putS, truthW, B1.run, eqW, scal2, seqb, gc_self, gc_int, s1, s2, w0, pairW, fits, putD, getD, weq, at_last, set_last, inW, flatW, show 6 < lim by decide, show 7 < lim by decide, show 8 < lim by decide, ba]
  · have q : valI [111, 114] a b = Builtin.bitOr a b := rfl
    rw [q, ← eo]
    simp [Fn.run, Lbinary_0a0a0, Lbinary_0a0a_t0, Lbinary_0a0, Lbinary_0a1, Lbinary_0a2a0, Lbinary_0a2a_t0, Lbinary_0a2, Lbinary_0a3a0, Lbinary_0a3a_t0, Lbinary_0a3, Lbinary_0a4, Lbinary_0a_t4, Lbinary_0a_t3, Lbinary_0a_t2, Lbinary_0a_t1, Lbinary_0a_t0, Lbinary_0, Lbinary_1a0, Lbinary_1a_t0, Lbinary_1, Lbinary_2a0, Lbinary_2a_t0, Lbinary_2, Lbinary_3, Lbinary_4, Lbinary_5, Lbinary_6, Lbinary_7, Lbinary_t7, Lbinary_t6, Lbinary_t5, Lbinary_t4, Lbinary_t3, Lbinary_t2, Lbinary_t1, Lbinary_t0, exs, ex, ev, evl, tst, RS.of, R.bind, R.of, RS.andThen, startE, Bop.run, Bop.runI, Cop.run, Tg.putS, truthW, B1.run, eqW, scal2, seqb, gc_self, gc_int, s1, s2, w0, pairW, fits, putD, getD, weq, at_last, set_last, inW, flatW, show 6 < lim by decide, show 7 < lim by decide, show 8 < lim by decide, bo]
  · have q : valI [120, 111, 114] a b = Builtin.bitXor a b := rfl
    rw [q, ← ex']
    simp [Fn.run, Lbinary_0a0a0, Lbinary_0a0a_t0, Lbinary_0a0, Lbinary_0a1, Lbinary_0a2a0, Lbinary_0a2a_t0, Lbinary_0a2, Lbinary_0a3a0, Lbinary_0a3a_t0, Lbinary_0a3, Lbinary_0a4, Lbinary_0a_t4, Lbinary_0a_t3, Lbinary_0a_t2, Lbinary_0a_t1, Lbinary_0a_t0, Lbinary_0, Lbinary_1a0, Lbinary_1a_t0, Lbinary_1, Lbinary_2a0, Lbinary_2a_t0, Lbinary_2, Lbinary_3, Lbinary_4, Lbinary_5, Lbinary_6, Lbinary_7, Lbinary_t7, Lbinary_t6, Lbinary_t5, Lbinary_t4, Lbinary_t3, Lbinary_t2, Lbinary_t1, Lbinary_t0, exs, ex, ev, evl, tst, RS.of, R.bind, R.of, RS.andThen, startE, Bop.run, Bop.runI, Cop.run, Tg.putS, truthW, B1.run, eqW, scal2, seqb, gc_self, gc_int, s1, s2, w0, pairW, fits, putD, getD, weq, at_last, set_last, inW, flatW, show 6 < lim by decide, show 7 < lim by decide, show 8 < lim by decide, bx]
  · have q : valI [115, 104, 108] a b = a * 2 ^ (b % 32).toNat := rfl
    rw [q]
    simp [Fn.run, Lbinary_0a0a0, Lbinary_0a0a_t0, Lbinary_0a0, Lbinary_0a1, Lbinary_0a2a0, Lbinary_0a2a_t0, Lbinary_0a2, Lbinary_0a3a0, Lbinary_0a3a_t0, Lbinary_0a3, Lbinary_0a4, Lbinary_0a_t4, Lbinary_0a_t3, Lbinary_0a_t2, Lbinary_0a_t1, Lbinary_0a_t0, Lbinary_0, Lbinary_1a0, Lbinary_1a_t0, Lbinary_1, Lbinary_2a0, Lbinary_2a_t0, Lbinary_2, Lbinary_3, Lbinary_4, Lbinary_5, Lbinary_6, Lbinary_7, Lbinary_t7, Lbinary_t6, Lbinary_t5, Lbinary_t4, Lbinary_t3, Lbinary_t2, Lbinary_t1, Lbinary_t0, exs, ex, ev, evl, tst, RS.of, R.bind, R.of, RS.andThen, startE, Bop.run, Bop.runI, Cop.run, Tg.putS, truthW, B1.run, eqW, scal2, seqb, gc_self, gc_int, s1, s2, w0, pairW, fits, putD, getD, weq, at_last, set_last, inW, flatW, show 6 < lim by decide, show 7 < lim by decide, show 8 < lim by decide, sh]
  · have q : valI [115, 104, 114] a b = a / 2 ^ (b % 32).toNat := rfl
    rw [q]
    simp [Fn.run, Lbinary_0a0a0, Lbinary_0a0a_t0, Lbinary_0a0, Lbinary_0a1, Lbinary_0a2a0, Lbinary_0a2a_t0, Lbinary_0a2, Lbinary_0a3a0, Lbinary_0a3a_t0, Lbinary_0a3, Lbinary_0a4, Lbinary_0a_t4, Lbinary_0a_t3, Lbinary_0a_t2, Lbinary_0a_t1, Lbinary_0a_t0, Lbinary_0, Lbinary_1a0, Lbinary_1a_t0, Lbinary_1, Lbinary_2a0, Lbinary_2a_t0, Lbinary_2, Lbinary_3, Lbinary_4, Lbinary_5, Lbinary_6, Lbinary_7, Lbinary_t7, Lbinary_t6, Lbinary_t5, Lbinary_t4, Lbinary_t3, Lbinary_t2, Lbinary_t1, Lbinary_t0, exs, ex, ev, evl, tst, RS.of, R.bind, R.of, RS.andThen, startE, Bop.run, Bop.runI, Cop.run, Tg.putS, truthW, B1.run, eqW, scal2, seqb, gc_self, gc_int, s1, s2, w0, pairW, fits, putD, getD, weq, at_last, set_last, inW, flatW, show 6 < lim by decide, show 7 < lim by decide, show 8 < lim by decide, sr]
theorem c_lbinary (k : Nat) (a b : Int) (g : G) (ha : a.natAbs < 2 ^ 40) (hb : b.natAbs < 2 ^ 40) : ∀ op ∈ opsL, callN T (k + 4) 32 [.str op, .int a, .int b] g = .ok (.int (wrapI (valI op a b))) g := by
  intro op hop
  have w0 := fun n g => c_lwrapped (k + 2) n g
  have s1 := small_of (n := a) (by omega)
  have s2 := small_of (n := b) (by omega)
  have s3 := small_of (n := divI a b) (divI_small (by omega))
  have h1 := lb_1 k a b g w0 s1 s2 op
  have h2 := lb_2 k a b g hb w0 s1 s2 s3 op
  have h3 := lb_3 k a b g ha w0 s1 s2 op
  simp only [opsL, List.mem_cons, List.not_mem_nil, or_false] at hop
  simp only [List.mem_cons, List.not_mem_nil, or_false] at h1 h2 h3
  rcases hop with h | h | h | h | h | h | h | h | h | h | h | h | h | h | h | h
  all_goals
    subst h
    first | (apply h1; decide; done) | (apply h2; decide; done) | (apply h3; decide; done)
def rl : List Int := [0, 1, -1, 2, 5, 31, 32, 33, -32, 2147483647, -2147483648, 2147483646, -2147483647, 65535, 65536, -65536]
theorem rl_word : ∀ x ∈ rl, IsWord x := by decide
theorem lword_to {k : Nat} {z : SS} {r : G} {Q : W → G → Prop} {X : Nat → G → Prop} (H : ∀ v z', IsWord v → Q (.int v) (hp z' r)) : (callN T (k + 2) 28 [.ref 1] (hp z r)).To Q X := by
  have hat : ∀ v : Int, 0 ≤ v → v < 16 → ∃ y, atW (rl.map W.int) v = some (.int y) ∧ IsWord y := by
    intro v h0 h1
    have hl : v.toNat < rl.length := by show v.toNat < 16; omega
    refine ⟨rl[v.toNat], ?_, rl_word _ (List.getElem_mem hl)⟩
    simp only [atW, ixW, List.length_map, show rl.length = 16 from rfl]
    rw [if_pos h0, if_pos (by omega)]
    simp
  refine call_To at28 rfl ?_
  have e0 : ex T (callN T (k + 1)) Lword_0 [some (.ref 1), none] (hp z r) = .go .nx [some (.ref 1), some (.ref (r.length + 2))] (hp z (r ++ [.lst (rl.map W.int)])) := by
    simp [Lword_0, ex, ev, evl, RS.of, R.bind, R.of, Bop.run, Bop.runI, Tg.putS, rl]
  show RS.To (exs T (callN T (k + 1)) (.cons Lword_0 Lword_t1) [some (.ref 1), none] (hp z r)) _ _
  rw [seq_To, e0]
  generalize hL : rl.map W.int = L at hat
  have hL16 : L.length = 16 := by rw [← hL]; rfl
  exists Lword_t1, Lword_1
  refine draw_to (by decide) (by decide) fun v z1 h0 h1 => ?_
  by_cases hv : v = 0
  · subst hv
    exists Lword_1a_t0, Lword_1a0
    refine draw_to (by decide) (by decide) fun v z1 h0 h1 => ?_
    exists of_some
    refine H _ _ ?_
    unfold IsWord; omega
  · exists hv, Lword_t2, Lword_2, hL16
    refine draw_to (by decide) (by decide) fun v z1 h0 h1 => ?_
    obtain ⟨y, e, hy⟩ := hat v h0 h1
    exists e
    exact H _ _ hy

end Kx
namespace Kx
open Dl PySem
local macro_rules
  | `(tactic| exists $es,*) => `(tactic| simp [ev, evl, tst, its, src, ex, Tg.putS, Tg.put, $[$es:term],*])
theorem atW_mem {xs : List W} {v : Int} (h0 : 0 ≤ v) (h1 : v < xs.length) : ∃ x, atW xs v = some x ∧ x ∈ xs := by
  obtain ⟨n, rfl⟩ := Int.eq_ofNat_of_zero_le h0
  have hn : n < xs.length := by omega
  exact ⟨xs[n], by rw [atW_nat]; simp [hn], List.getElem_mem hn⟩
/-- what machine code may name -/
structure Cfg where
  many : Int
  loc : Int
  par : Int → Prop
  arr : Int → Prop
def Reg (n : Int) : Prop := 0 ≤ n ∧ n < 8
inductive Ins (c : Cfg) : W → Prop
  | word (d n : Int) (hd : Reg d) (hn : IsWord n) : Ins c (.tup [.str [119, 111, 114, 100], .int d, .int n])
  | param (d k : Int) (hd : Reg d) (hk : c.par k) : Ins c (.tup [.str [112, 97, 114, 97, 109], .int d, .int k])
  | special (d : Int) (s : List Nat) (hd : Reg d) (hs : s ∈ ([[116, 105, 100], [98, 105, 100], [100, 105, 109], [103, 114, 105, 100]] : List (List Nat))) : Ins c (.tup [.str [115, 112, 101, 99, 105, 97, 108], .int d, .str s])
  | copy (d r : Int) (hd : Reg d) (hr : Reg r) : Ins c (.tup [.str [99, 111, 112, 121], .int d, .int r])
  | unary (op : List Nat) (d r : Int) (ho : op ∈ unL) (hd : Reg d) (hr : Reg r) : Ins c (.tup [.str [117, 110, 97, 114, 121], .str op, .int d, .int r])
  | binary (op : List Nat) (d r s : Int) (ho : op ∈ opsL) (hd : Reg d) (hr : Reg r) (hs : Reg s) : Ins c (.tup [.str [98, 105, 110, 97, 114, 121], .str op, .int d, .int r, .int s])
  | load (d a r : Int) (hd : Reg d) (ha : c.arr a) (hr : Reg r) : Ins c (.tup [.str [108, 111, 97, 100], .int d, .int a, .int r])
  | store (a r s : Int) (ha : c.arr a) (hr : Reg r) (hs : Reg s) : Ins c (.tup [.str [115, 116, 111, 114, 101], .int a, .int r, .int s])
  | atomic (op : List Nat) (a r s : Int) (ho : op ∈ foldL) (ha : c.arr a) (hr : Reg r) (hs : Reg s) : Ins c (.tup [.str [97, 116, 111, 109, 105, 99], .str op, .int a, .int r, .int s])
  | barrier (n : Int) (h0 : 0 ≤ n) (h1 : n < 100) : Ins c (.tup [.str [98, 97, 114, 114, 105, 101, 114], .int n])
  | collect (op : List Nat) (d r n : Int) (ho : op ∈ foldL) (hd : Reg d) (hr : Reg r) (h0 : 0 ≤ n) (h1 : n < 100) : Ins c (.tup [.str [99, 111, 108, 108, 101, 99, 116], .str op, .int d, .int r, .int n])
  | get (d l : Int) (hd : Reg d) (h0 : 0 ≤ l) (h1 : l < c.loc) : Ins c (.tup [.str [103, 101, 116], .int d, .int l])
  | keep (l r : Int) (h0 : 0 ≤ l) (h1 : l < c.loc) (hr : Reg r) : Ins c (.tup [.str [107, 101, 101, 112], .int l, .int r])
  | jump (k : Int) (h0 : 0 ≤ k) (h1 : k < c.many) : Ins c (.tup [.str [106, 117, 109, 112], .int k])
  | exit : Ins c (.tup [.str [101, 120, 105, 116]])
  | branch (r k j : Int) (hr : Reg r) (h0 : 0 ≤ k) (h1 : k < c.many) (h2 : 0 ≤ j) (h3 : j ≤ c.many) : Ins c (.tup [.str [98, 114, 97, 110, 99, 104], .int r, .int k, .int j])
theorem reg_to {k : Nat} {z : SS} {r : G} {Q : W → G → Prop} {X : Nat → G → Prop} (H : ∀ v z', Reg v → Q (.int v) (hp z' r)) : (callN T (k + 2) 34 [.ref 1] (hp z r)).To Q X := by
  refine call_To at34 rfl ?_
  exists Lregister_0, Lregister_t0, startE
  refine draw_to (by decide) (by decide) fun v z1 h0 h1 => ?_
  obtain ⟨x, e, hx⟩ := atW_mem (xs := [.int 4, .int 4, .int 8]) h0 h1
  have hx : x = .int 4 ∨ x = .int 8 := by simpa using hx
  rcases hx with rfl | rfl
  · exists e
    refine draw_to (by decide) (by decide) fun v z1 h0 h1 => ?_
    exists of_some
    exact H _ _ ⟨h0, by omega⟩
  · exists e
    refine draw_to (by decide) (by decide) fun v z1 h0 h1 => ?_
    exists of_some
    exact H _ _ ⟨h0, by omega⟩
def cf61 (many loc : Int) : Cfg := ⟨many, loc, fun k => k = 1 ∨ k = 3 ∨ k = 4, fun a => a = 0 ∨ a = 2 ∨ a = 6 ∨ a = 7 ∨ a = 8⟩
theorem Ins.pure {c : Cfg} {w : W} (h : Ins c w) (n : Nat) : below n w = true := by cases h <;> simp
section
variable {k : Nat} {z : SS} {r : G} {many loc : Int} {Q : W → G → Prop} {X : Nat → G → Prop}
theorem plain_to (hl : loc < 100) (H : ∀ w z', Ins (cf61 many loc) w → Q w (hp z' r)) : (callN T (k + 3) 35 [.ref 1, .int loc] (hp z r)).To Q X := by
  refine call_To at35 rfl ?_
  exists Lplain_instruction_t0, Lplain_instruction_0, startE
  refine draw_to (by decide) (by decide) fun pick z1 h0 h1 => ?_
  exists Lplain_instruction_t1, Lplain_instruction_1
  refine reg_to fun d z2 hd => ?_
  exists Lplain_instruction_t2, Lplain_instruction_2
  refine reg_to fun s z3 hs => ?_
  have bin : ∀ z3, (exs T (callN T (k + 2)) Lplain_instruction_t10 [some (.ref 1), some (.int loc), some (.int pick), some (.int d), some (.int s), none] (hp z3 r)).To (fin (hp z r) Q) (fun c _ g' => X c (gc (hp z r) .non g')) := by
    intro z3
    exists Lplain_instruction_t10, Lplain_instruction_10, Lplain_instruction_t11, Lplain_instruction_11
    refine draw_to (by decide) (by decide) fun v z4 v0 v1 => ?_
    obtain ⟨x, e, hx⟩ := atW_mem (xs := [W.str [97, 100, 100], W.str [115, 117, 98], W.str [109, 117, 108], W.str [97, 110, 100], W.str [120, 111, 114], W.str [108, 116], W.str [101, 113], W.str [109, 97, 120]]) v0 v1
    obtain ⟨op, rfl, ho⟩ : ∃ op, x = .str op ∧ op ∈ opsL := by
      simp only [List.mem_cons, List.not_mem_nil, or_false] at hx
      rcases hx with rfl | rfl | rfl | rfl | rfl | rfl | rfl | rfl <;> exact ⟨_, rfl, by decide⟩
    exists e, hp_app
    refine reg_to fun u z5 hu => ?_
    exists hp_app
    exact H _ _ (.binary _ _ _ _ ho hd hs hu)
  have hp9 : pick = 0 ∨ pick = 1 ∨ pick = 2 ∨ pick = 3 ∨ pick = 4 ∨ pick = 5 ∨ pick = 6 ∨ pick = 7 ∨ pick = 8 := by omega
  rcases hp9 with rfl | rfl | rfl | rfl | rfl | rfl | rfl | rfl | rfl
  · exists Lplain_instruction_t3, Lplain_instruction_3, Lplain_instruction_3a_t0, Lplain_instruction_3a0
    refine draw_to (by decide) (by decide) fun v z4 v0 v1 => ?_
    have hv : v = 0 ∨ v = 1 ∨ v = 2 ∨ v = 3 ∨ v = 4 := by omega
    rcases hv with rfl | rfl | rfl | rfl | rfl <;> exists hp_app <;> exact H _ _ (.word _ _ hd (by decide))
  · exists Lplain_instruction_t3, Lplain_instruction_3, Lplain_instruction_t4, Lplain_instruction_4, Lplain_instruction_4a_t0, Lplain_instruction_4a0
    refine draw_to (by decide) (by decide) fun v z4 v0 v1 => ?_
    have hv : v = 0 ∨ v = 1 ∨ v = 2 := by omega
    rcases hv with rfl | rfl | rfl <;> exists hp_app <;> exact H _ _ (.param _ _ hd (by simp [cf61]))
  · exists Lplain_instruction_t3, Lplain_instruction_3, Lplain_instruction_t4, Lplain_instruction_4, Lplain_instruction_t5, Lplain_instruction_5, Lplain_instruction_5a_t0, Lplain_instruction_5a0
    refine draw_to (by decide) (by decide) fun v z4 v0 v1 => ?_
    have hv : v = 0 ∨ v = 1 ∨ v = 2 ∨ v = 3 ∨ v = 4 := by omega
    rcases hv with rfl | rfl | rfl | rfl | rfl <;> exists hp_app <;> exact H _ _ (.special _ _ hd (by decide))
  · exists Lplain_instruction_t3, Lplain_instruction_3, Lplain_instruction_t4, Lplain_instruction_4, Lplain_instruction_t5, Lplain_instruction_5, Lplain_instruction_t6, Lplain_instruction_6, Lplain_instruction_6a_t0, Lplain_instruction_6a0
    exact H _ _ (.copy _ _ hd hs)
  · exists Lplain_instruction_t3, Lplain_instruction_3, Lplain_instruction_t4, Lplain_instruction_4, Lplain_instruction_t5, Lplain_instruction_5, Lplain_instruction_t6, Lplain_instruction_6, Lplain_instruction_t7, Lplain_instruction_7, Lplain_instruction_7a_t0, Lplain_instruction_7a0
    refine draw_to (by decide) (by decide) fun v z4 v0 v1 => ?_
    have hv : v = 0 ∨ v = 1 ∨ v = 2 := by omega
    rcases hv with rfl | rfl | rfl <;> exists hp_app <;> exact H _ _ (.unary _ _ _ (by decide) hd hs)
  · by_cases hloc : 0 < loc
    · exists Lplain_instruction_t3, Lplain_instruction_3, Lplain_instruction_t4, Lplain_instruction_4, Lplain_instruction_t5, Lplain_instruction_5, Lplain_instruction_t6, Lplain_instruction_6, Lplain_instruction_t7, Lplain_instruction_7, Lplain_instruction_t8, Lplain_instruction_8, hloc, Lplain_instruction_8a_t0, Lplain_instruction_8a0
      refine draw_to hloc (by omega) fun v z4 v0 v1 => ?_
      exists hp_app
      exact H _ _ (.get _ _ hd v0 v1)
    · exists Lplain_instruction_t3, Lplain_instruction_3, Lplain_instruction_t4, Lplain_instruction_4, Lplain_instruction_t5, Lplain_instruction_5, Lplain_instruction_t6, Lplain_instruction_6, Lplain_instruction_t7, Lplain_instruction_7, Lplain_instruction_t8, Lplain_instruction_8, hloc, Lplain_instruction_t9, Lplain_instruction_9
      exact bin _
  · by_cases hloc : 0 < loc
    · exists Lplain_instruction_t3, Lplain_instruction_3, Lplain_instruction_t4, Lplain_instruction_4, Lplain_instruction_t5, Lplain_instruction_5, Lplain_instruction_t6, Lplain_instruction_6, Lplain_instruction_t7, Lplain_instruction_7, Lplain_instruction_t8, Lplain_instruction_8, hloc, Lplain_instruction_t9, Lplain_instruction_9, Lplain_instruction_9a_t0, Lplain_instruction_9a0
      refine draw_to hloc (by omega) fun v z4 v0 v1 => ?_
      exists hp_app
      exact H _ _ (.keep _ _ v0 v1 hs)
    · exists Lplain_instruction_t3, Lplain_instruction_3, Lplain_instruction_t4, Lplain_instruction_4, Lplain_instruction_t5, Lplain_instruction_5, Lplain_instruction_t6, Lplain_instruction_6, Lplain_instruction_t7, Lplain_instruction_7, Lplain_instruction_t8, Lplain_instruction_8, hloc, Lplain_instruction_t9, Lplain_instruction_9
      exact bin _
  · exists Lplain_instruction_t3, Lplain_instruction_3, Lplain_instruction_t4, Lplain_instruction_4, Lplain_instruction_t5, Lplain_instruction_5, Lplain_instruction_t6, Lplain_instruction_6, Lplain_instruction_t7, Lplain_instruction_7, Lplain_instruction_t8, Lplain_instruction_8, Lplain_instruction_t9, Lplain_instruction_9
    exact bin _
  · exists Lplain_instruction_t3, Lplain_instruction_3, Lplain_instruction_t4, Lplain_instruction_4, Lplain_instruction_t5, Lplain_instruction_5, Lplain_instruction_t6, Lplain_instruction_6, Lplain_instruction_t7, Lplain_instruction_7, Lplain_instruction_t8, Lplain_instruction_8, Lplain_instruction_t9, Lplain_instruction_9
    exact bin _
theorem instruction_to (hl : loc < 100) (hm : 3 ≤ many) (hm2 : many ≤ 14) (H : ∀ w z', Ins (cf61 many loc) w → Q w (hp z' r)) : (callN T (k + 4) 36 [.ref 1, .int many, .int loc] (hp z r)).To Q X := by
  refine call_To at36 rfl ?_
  exists Linstruction_t0, Linstruction_0, startE
  refine draw_to (by decide) (by decide) fun pick z1 h0 h1 => ?_
  exists Linstruction_t1, Linstruction_1
  refine reg_to fun s z2 hs => ?_
  exists Linstruction_t2, Linstruction_2
  refine draw_to (by decide) (by decide) fun v z3 v0 v1 => ?_
  obtain ⟨x, e, hx⟩ := atW_mem (xs := [W.int 0, W.int 2, W.int 6, W.int 7, W.int 8, W.int 6]) v0 v1
  obtain ⟨a, rfl, ha⟩ : ∃ a, x = .int a ∧ (cf61 many loc).arr a := by
    simp only [List.mem_cons, List.not_mem_nil, or_false] at hx
    rcases hx with rfl | rfl | rfl | rfl | rfl | rfl <;> exact ⟨_, rfl, by simp [cf61]⟩
  exists e, Linstruction_t3, Linstruction_3
  refine draw_to (by decide) (by decide) fun u z4 u0 u1 => ?_
  obtain ⟨y, e2, hy⟩ := atW_mem (xs := [W.str [97, 100, 100], W.str [109, 105, 110], W.str [109, 97, 120], W.str [97, 110, 100], W.str [111, 114], W.str [120, 111, 114]]) u0 u1
  obtain ⟨op, rfl, ho⟩ : ∃ op, y = .str op ∧ op ∈ foldL := by
    simp only [List.mem_cons, List.not_mem_nil, or_false] at hy
    rcases hy with rfl | rfl | rfl | rfl | rfl | rfl <;> exact ⟨_, rfl, by decide⟩
  exists e2
  generalize er : r ++ [_, _] = r2
  have e3 : Ext r r2 := er ▸ .app
  clear er
  have H2 : ∀ w z', Ins (cf61 many loc) w → Q w (gc (hp z r) w (hp z' r2)) := fun w z' h => by
    rw [gc_ext e3 (h.pure _)]
    exact H w z' h
  have pl : ∀ z3, (exs T (callN T (k + 3)) Linstruction_t12 [some (.ref 1), some (.int many), some (.int loc), some (.int pick), some (.int s), some (.int a), some (.str op)] (hp z3 r2)).To (fin (hp z r) Q) (fun c _ g' => X c (gc (hp z r) .non g')) := by
    intro z3
    exists Linstruction_t12, Linstruction_12
    exact plain_to hl fun w z' h => H2 w z' h
  have hp14 : pick = 0 ∨ pick = 1 ∨ pick = 2 ∨ pick = 3 ∨ pick = 4 ∨ pick = 5 ∨ (6 ≤ pick ∧ pick < 9) ∨ pick = 9 ∨ 10 ≤ pick := by omega
  rcases hp14 with rfl | rfl | rfl | rfl | rfl | rfl | hp | rfl | hp
  · exists Linstruction_t4, Linstruction_4, Linstruction_4a_t0, Linstruction_4a0
    refine reg_to fun d z5 hd => ?_
    exact H2 _ _ (.load _ _ _ hd ha hs)
  · exists Linstruction_t4, Linstruction_4, Linstruction_t5, Linstruction_5, Linstruction_5a_t0, Linstruction_5a0
    refine reg_to fun d z5 hd => ?_
    exact H2 _ _ (.store _ _ _ ha hs hd)
  · exists Linstruction_t4, Linstruction_4, Linstruction_t5, Linstruction_5, Linstruction_t6, Linstruction_6, Linstruction_6a_t0, Linstruction_6a0
    refine reg_to fun d z5 hd => ?_
    exact H2 _ _ (.atomic _ _ _ _ ho ha hs hd)
  · exists Linstruction_t4, Linstruction_4, Linstruction_t5, Linstruction_5, Linstruction_t6, Linstruction_6, Linstruction_t7, Linstruction_7, Linstruction_7a_t0, Linstruction_7a0
    refine draw_to (by decide) (by decide) fun d z5 d0 d1 => ?_
    exact H2 _ _ (.barrier _ d0 (by omega))
  · exists Linstruction_t4, Linstruction_4, Linstruction_t5, Linstruction_5, Linstruction_t6, Linstruction_6, Linstruction_t7, Linstruction_7, Linstruction_t8, Linstruction_8, Linstruction_8a_t0, Linstruction_8a0
    refine reg_to fun d z5 hd => ?_
    refine draw_to (by decide) (by decide) fun n z5 d0 d1 => ?_
    exact H2 _ _ (.collect _ _ _ _ ho hd hs d0 (by omega))
  · exists Linstruction_t4, Linstruction_4, Linstruction_t5, Linstruction_5, Linstruction_t6, Linstruction_6, Linstruction_t7, Linstruction_7, Linstruction_t8, Linstruction_8, Linstruction_t9, Linstruction_9, Linstruction_9a_t0, Linstruction_9a0
    refine draw_to (m := many) (by omega) (by omega) fun n z5 d0 d1 => ?_
    exact H2 _ _ (.jump _ d0 d1)
  · have n0 : ¬ pick = 0 := by omega
    have n1 : ¬ pick = 1 := by omega
    have n2 : ¬ pick = 2 := by omega
    have n3 : ¬ pick = 3 := by omega
    have n4 : ¬ pick = 4 := by omega
    have n5 : ¬ pick = 5 := by omega
    exists Linstruction_t4, Linstruction_4, n0, Linstruction_t5, Linstruction_5, n1, Linstruction_t6, Linstruction_6, n2, Linstruction_t7, Linstruction_7, n3, Linstruction_t8, Linstruction_8, n4, Linstruction_t9, Linstruction_9, n5, Linstruction_t10, Linstruction_10, hp.2, Linstruction_10a_t0, Linstruction_10a0
    refine draw_to (m := many) (by omega) (by omega) fun n z5 d0 d1 => ?_
    refine draw_to (m := many + 1) (by omega) (by omega) fun j z5 j0 j1 => ?_
    exact H2 _ _ (.branch _ _ _ hs d0 d1 j0 (by show j ≤ many; omega))
  · exists Linstruction_t4, Linstruction_4, Linstruction_t5, Linstruction_5, Linstruction_t6, Linstruction_6, Linstruction_t7, Linstruction_7, Linstruction_t8, Linstruction_8, Linstruction_t9, Linstruction_9, Linstruction_t10, Linstruction_10, Linstruction_t11, Linstruction_11
    refine draw_to (by decide) (by decide) fun n z5 d0 d1 => ?_
    by_cases hn : n = 0
    · exists hn, Linstruction_11a_t0, Linstruction_11a0
      exact H2 _ _ .exit
    · exists hn
      exact pl _
  · have n0 : ¬ pick = 0 := by omega
    have n1 : ¬ pick = 1 := by omega
    have n2 : ¬ pick = 2 := by omega
    have n3 : ¬ pick = 3 := by omega
    have n4 : ¬ pick = 4 := by omega
    have n5 : ¬ pick = 5 := by omega
    have n9 : ¬ pick < 9 := by omega
    have n10 : ¬ pick = 9 := by omega
    exists Linstruction_t4, Linstruction_4, n0, Linstruction_t5, Linstruction_5, n1, Linstruction_t6, Linstruction_6, n2, Linstruction_t7, Linstruction_7, n3, Linstruction_t8, Linstruction_8, n4, Linstruction_t9, Linstruction_9, n5, Linstruction_t10, Linstruction_10, n9, Linstruction_t11, Linstruction_11, n10
    exact pl _
end

end Kx
namespace Kx
open Dl PySem
local macro_rules
  | `(tactic| exists $es,*) => `(tactic| simp [ev, evl, tst, its, src, ex, Tg.putS, Tg.put, $[$es:term],*])
theorem run_repT {x : List W} {k : Int} {g : G} (h : k ≤ 1000) (h0 : -1000 ≤ k) (hl : x.length ≤ 1000) : Bop.run .mul (.tup x) (.int k) g = .ok (.tup (List.replicate k.toNat x).flatten) g := by
  simp [Bop.run, h, h0, hl]
def sInt : List Nat := [105, 110, 116]
def sBuf : List Nat := [98, 117, 102, 102, 101, 114]
def pw61 : W := .tup [.tup [.str [97], .str sBuf], .tup [.str [110], .str sInt], .tup [.str [98], .str sBuf], .tup [.str [109], .str sInt], .tup [.str [111], .str sInt]]
def sw61 : W := .tup [.tup [.str [115], .int 3], .tup [.str [116], .int 1], .tup [.str [117], .int 16]]
structure Code61 (many loc : Int) (rows : List W) : Prop where
  m3 : 3 ≤ many
  m14 : many ≤ 14
  l0 : 0 ≤ loc
  l6 : loc ≤ 6
  len : (rows.length : Int) = many
  ins : ∀ w ∈ rows, Ins (cf61 many loc) w
  last : ∃ init w, rows = init ++ [w] ∧ (w = .tup [.str [101, 120, 105, 116]] ∨ ∃ n : Int, 0 ≤ n ∧ n < many ∧ w = .tup [.str [106, 117, 109, 112], .int n])
def codeW (loc : Int) (rows : List W) : W := .tup [pw61, sw61, .int loc, .tup rows]
theorem ins_below {c : Cfg} {n : Nat} : ∀ {rows : List W}, (∀ w ∈ rows, Ins c w) → belows n rows = true
  | [], _ => rfl
  | w :: rows, h => by simp [(h w List.mem_cons_self).pure n, ins_below fun w hw => h w (List.mem_cons_of_mem _ hw)]
structure La61 (g b x y v : Int) (m : W) : Prop where
  g1 : 1 ≤ g
  g4 : g ≤ 4
  b1 : 1 ≤ b
  b8 : b ≤ 8
  x0 : 0 ≤ x
  x4 : x < 4
  y0 : -1 ≤ y
  y4 : y < 4
  v0 : 0 ≤ v
  v4 : v < 4
def laW (g b x y v : Int) (m : W) : W := .tup [.int g, .int b, .tup [.int x, .int y, .int v, .int 7, .int (-9)], m]
section
variable {k : Nat} {z : SS} {r : G} {many loc : Int} {Q : W → G → Prop} {X : Nat → G → Prop}
theorem code_to (H : ∀ many loc rows z', Code61 many loc rows → Q (codeW loc rows) (hp z' r)) : (callN T (k + 5) 37 [.ref 1] (hp z r)).To Q X := by
  refine call_To at37 rfl ?_
  exists Lcode_t0, Lcode_0, startE
  refine draw_to (by decide) (by decide) fun mm z1 m0 m1 => ?_
  exists Lcode_t1, Lcode_1
  refine draw_to (by decide) (by decide) fun lv z2 v0 v1 => ?_
  obtain ⟨x, e, hx⟩ := atW_mem (xs := [W.int 0, W.int 1, W.int 2, W.int 6]) v0 v1
  obtain ⟨loc, rfl, hl0, hl6⟩ : ∃ l, x = .int l ∧ 0 ≤ l ∧ l ≤ 6 := by
    simp only [List.mem_cons, List.not_mem_nil, or_false] at hx
    rcases hx with rfl | rfl | rfl | rfl <;> exact ⟨_, rfl, by decide, by decide⟩
  obtain ⟨many, hmany⟩ : ∃ many, many = 3 + mm := ⟨_, rfl⟩
  rw [← hmany]
  have l1 := lim_ok (n := many - 2) (by omega) (by omega)
  exists e, Lcode_t2, Lcode_2, Lcode_t3, Lcode_3, l1
  generalize er : r ++ [_, _] = r2
  have e2 : Ext r r2 := er ▸ .app
  have a2 : At r2 (r.length + 3) (.lst [.tup [.str [115, 112, 101, 99, 105, 97, 108], .int 1, .str [116, 105, 100]]]) := er ▸ ⟨by omega, by simp [show r.length + 3 - 2 = r.length + 1 by omega]⟩
  clear er
  obtain ⟨p, hp'⟩ : ∃ p, p = r.length + 3 := ⟨_, rfl⟩
  rw [← hp'] at a2 ⊢
  obtain ⟨P, hP⟩ : ∃ P : Nat → Dl.Env → G → Prop, ∀ j ρ g, P j ρ g ↔ ∃ (v4 : Option W) (y : SS) (r' : G) (rows : List W), ρ = [some (.ref 1), some (.int many), some (.int loc), some (.ref p), v4, none] ∧ g = hp y r' ∧ Ext r r' ∧ At r' p (.lst rows) ∧ rows.length = j + 1 ∧ ∀ w ∈ rows, Ins (cf61 many loc) w := ⟨_, fun _ _ _ => Iff.rfl⟩
  refine forR_To (P := P) ((hP ..).mpr ⟨_, _, _, _, rfl, rfl, e2, a2, rfl, by simpa using Ins.special _ _ ⟨by decide, by decide⟩ (by decide)⟩) ?_ ?_
  · intro j ρ g hj h
    obtain ⟨v4, y, r', rows, rfl, rfl, er, a, hl, hi⟩ := (hP ..).mp h
    refine ⟨_, rfl, ?_⟩
    have hg : (hp y r')[p]? = _ := a.get
    exists Lcode_3f_t0, Lcode_3f0, hg
    refine instruction_to (by omega) (by omega) (by omega) fun w z3 hw => ?_
    have happ := a.append (z := z3) (y := w) (by rw [lim_nat]; omega)
    exists happ
    refine (hP ..).mpr ⟨_, _, _, rows ++ [w], rfl, rfl, er.set (by omega), a.set_self, by simp [hl], fun u hu => ?_⟩
    rcases List.mem_append.mp hu with hu | hu
    · exact hi u hu
    · obtain rfl : u = w := by simpa using hu
      exact hw
  · intro ρ g h
    obtain ⟨v4, y, r', rows, rfl, rfl, er, a, hl, hi⟩ := (hP ..).mp h
    have hg : (hp y r')[p]? = _ := a.get
    exists Lcode_t4, Lcode_4, hg
    refine draw_to (m := many) (by omega) (by omega) fun n z3 n0 n1 => ?_
    simp only [hp_app, hp_len]
    generalize er3 : r' ++ [_] = r3
    have e3 : Ext r' r3 := er3 ▸ .app
    have g3 : r3[r'.length]? = some (.lst [.tup [.str [101, 120, 105, 116]], .tup [.str [101, 120, 105, 116]], .tup [.str [106, 117, 109, 112], .int n]]) := er3 ▸ by simp
    clear er3
    refine draw_to (by decide) (by decide) fun t z4 t0 t1 => ?_
    have fin : ∀ w, (w = .tup [.str [101, 120, 105, 116]] ∨ ∃ n : Int, 0 ≤ n ∧ n < many ∧ w = .tup [.str [106, 117, 109, 112], .int n]) → Ins (cf61 many loc) w → (M.runL .append p [w] (hp z4 r3)).To (fun _ g => (exs T (callN T (k + 4)) Lcode_t5 [some (.ref 1), some (.int many), some (.int loc), some (.ref p), v4, none] g).To (fin (hp z r) Q) (fun c _ g' => X c (gc (hp z r) .non g'))) (fun c g => X c (gc (hp z r) .non g)) := by
      intro w hw hi2
      have hin : ∀ u ∈ rows ++ [w], Ins (cf61 many loc) u := fun u hu => by
        rcases List.mem_append.mp hu with hu | hu
        · exact hi u hu
        · obtain rfl : u = w := by simpa using hu
          exact hi2
      rw [(a.ext e3).append (z := z4) (y := w) (by rw [lim_nat]; omega)]
      have a5 := (a.ext e3).set_self (o' := .lst (rows ++ [w]))
      have e5 : Ext r (r3.set (p - 2) (.lst (rows ++ [w]))) := (er.trans e3).set (by omega)
      generalize r3.set (p - 2) (.lst (rows ++ [w])) = r5 at a5 e5
      have g5 : (hp z4 r5)[p]? = _ := a5.get
      have eg : gc (hp z r) (codeW loc (rows ++ [w])) (hp z4 r5) = hp z4 r := gc_ext e5 (by simp [codeW, pw61, sw61, ins_below hin])
      exists Lcode_t5, Lcode_5, Lcode_t6, Lcode_6, seqOf, g5, R.of
      simp only [codeW, pw61, sw61, sInt, sBuf] at eg
      rw [eg]
      exact H many loc (rows ++ [w]) z4 ⟨by omega, by omega, hl0, hl6, by simp [hl]; omega, hin, rows, w, rfl, hw⟩
    have ht : t = 0 ∨ t = 1 ∨ t = 2 := by omega
    rcases ht with rfl | rfl | rfl <;> exists g3
    · exact fin _ (.inl rfl) .exit
    · exact fin _ (.inl rfl) .exit
    · exact fin _ (.inr ⟨n, n0, n1, rfl⟩) (.jump _ n0 n1)
theorem started_to (H : ∀ g b x y v m z', La61 g b x y v m → Q (laW g b x y v m) (hp z' r)) : (callN T (k + 2) 38 [.ref 1] (hp z r)).To Q X := by
  refine call_To at38 rfl ?_
  exists Lstarted_t0, Lstarted_0, startE
  refine draw_to (by decide) (by decide) fun c z1 c0 c1 => ?_
  have l1 := lim_ok (n := c) (by omega) (by omega)
  have l2 := lim_le (n := c.toNat) (by omega)
  exists l1, l2, wipeE
  refine compD (E := fun i => -3 ≤ i ∧ i ≤ 5) (by intros; simp [tst, ev]) ?_ ?_
  · intro w hw z
    exists run_sub, To_ok
    refine draw_to (by decide) (by decide) fun i z6 i0 i1 => ?_
    simp only [run_sub, To_ok]
    exact ⟨_, rfl, ⟨by omega, by omega⟩, _, rfl⟩
  · intro l z2 hll hE
    have hb := belows_ints (r.length + 2) l
    have rp := fun g => run_repT (x := [W.int 4]) (k := 5) (g := g) (by decide) (by decide) (by simp)
    exists Lstarted_t1, Lstarted_1, rp
    refine draw_to (by decide) (by decide) fun nb z3 n0 n1 => ?_
    try simp only [rp, To_ok]
    have hlen : ∀ x y z w : W, (cutW [x, y, z, w] none (some (1 + nb))).length = (1 + nb).toNat := by
      intro x y z w
      have hn : nb = 0 ∨ nb = 1 ∨ nb = 2 ∨ nb = 3 := by omega
      rcases hn with rfl | rfl | rfl | rfl <;> rfl
    have hbel : ∀ L : List W, (∀ w ∈ L, below (r.length + 2) w = true) → ∀ lo hi, belows (r.length + 2) (cutW L lo hi) = true := by
      intro L hL lo hi
      have : ∀ M : List W, (∀ w ∈ M, below (r.length + 2) w = true) → belows (r.length + 2) M = true := by
        intro M
        induction M with
        | nil => intro _; rfl
        | cons a b ih => intro h; simp [h a List.mem_cons_self, ih fun w hw => h w (List.mem_cons_of_mem _ hw)]
      exact this _ fun w hw => hL w (List.mem_of_mem_drop (List.mem_of_mem_take hw))
    have hlen := hlen (W.tup (List.map W.int l)) (W.tup [W.int 1, W.int 2, W.int 3]) (W.tup []) (W.tup [W.int 4, W.int 4, W.int 4, W.int 4, W.int 4])
    have hbel := hbel [W.tup (List.map W.int l), W.tup [W.int 1, W.int 2, W.int 3], W.tup [], W.tup [W.int 4, W.int 4, W.int 4, W.int 4, W.int 4]] (by intro w hw; simp only [List.mem_cons, List.not_mem_nil, or_false] at hw; rcases hw with rfl | rfl | rfl | rfl <;> simp [hb]) none (some (1 + nb))
    obtain ⟨M, hM⟩ : ∃ M, M = cutW [W.tup (List.map W.int l), W.tup [W.int 1, W.int 2, W.int 3], W.tup [], W.tup [W.int 4, W.int 4, W.int 4, W.int 4, W.int 4]] none (some (1 + nb)) := ⟨_, rfl⟩
    rw [← hM] at hlen hbel
    try rw [show (List.replicate (Int.toNat 5) [W.int 4]).flatten = [W.int 4, W.int 4, W.int 4, W.int 4, W.int 4] from rfl]
    simp only [run_add, To_ok]
    rw [← hM]
    clear hM
    clear rp hE hll
    exists Lstarted_t2, Lstarted_2, Lstarted_t3, Lstarted_3
    refine draw_to (m := (M.length : Int)) (by omega) (by omega) fun x z4 x0 x1 => ?_
    try simp only [run_sub, To_ok]
    refine draw_to (by decide) (by decide) fun y z5 y0 y1 => ?_
    try simp only [run_sub, To_ok]
    refine draw_to (m := (M.length : Int)) (by omega) (by omega) fun v z6 v0 v1 => ?_
    exists Lstarted_t4, Lstarted_4
    generalize er : r ++ [_] = r1
    have e1 : Ext r r1 := er ▸ .app
    have g1 : r1[r.length]? = some (.lst [.int 4, .int 8]) := er ▸ by simp
    clear er
    refine draw_to (by decide) (by decide) fun t z7 t0 t1 => ?_
    have block : ∀ (m : Int) z8 Y, 0 < m → m ≤ 8 → (callN T (k + 1) 27 [.ref 1, .int m] (hp z8 r1)).To (fun w g => (Bop.run .add (.int 1) w g).To (fun w g => (exs T (callN T (k + 1)) Lstarted_t5 [some (.ref 1), some (.tup (List.map W.int l)), some (.tup M), some (.int M.length), some (.tup [.int x, .int (y - 1), .int v, .int 7, .int (-9)]), some w, none] g).To (fin (hp z r) Q) (fun c _ g' => X c (gc (hp z r) .non g'))) Y) Y := by
      intro m z8 Y hm hm8
      refine draw_to hm (by omega) fun d z9 d0 d1 => ?_
      exists Lstarted_t5, Lstarted_5
      generalize er : r1 ++ [_] = r2
      have e2 : Ext r1 r2 := er ▸ .app
      have g2 : r2[r1.length]? = some (.lst [.int 3, .int 4]) := er ▸ by simp
      clear er
      refine draw_to (by decide) (by decide) fun f z10 f0 f1 => ?_
      have fin : ∀ (i : Int) z11, 0 ≤ i → i < 4 → Q (.tup [.int (1 + i), .int (1 + d), .tup [.int x, .int (y - 1), .int v, .int 7, .int (-9)], .tup M]) (gc (hp z r) (.tup [.int (1 + i), .int (1 + d), .tup [.int x, .int (y - 1), .int v, .int 7, .int (-9)], .tup M]) (hp z11 r2)) := by
        intro i z11 i0 i1
        rw [gc_ext (e1.trans e2) (by simp [hbel])]
        exact H _ _ _ _ _ _ _ ⟨by omega, by omega, by omega, by omega, by omega, by omega, by omega, by omega, by omega, by omega⟩
      have hf : f = 0 ∨ f = 1 := by omega
      rcases hf with rfl | rfl <;> exists g2
      · refine draw_to (by decide) (by decide) fun i z11 i0 i1 => ?_
        try simp only [run_add, To_ok]
        exact fin i z11 i0 (by omega)
      · refine draw_to (by decide) (by decide) fun i z11 i0 i1 => ?_
        try simp only [run_add, To_ok]
        exact fin i z11 i0 (by omega)
    have ht : t = 0 ∨ t = 1 := by omega
    rcases ht with rfl | rfl <;> exists g1
    · exact block 4 _ _ (by decide) (by decide)
    · exact block 8 _ _ (by decide) (by decide)
end

end Kx
namespace Kx
open Dl PySem
local macro_rules
  | `(tactic| exists $es,*) => `(tactic| simp [ev, evl, tst, its, src, ex, Tg.putS, Tg.put, $[$es:term],*])
theorem R.To.eq {α : Type} {r : R α} {a : α} {g : G} (h : r.To (fun v g' => v = a ∧ g' = g) noX) : r = .ok a g := by
  obtain ⟨v, g', e, rfl, rfl⟩ := h.ok
  exact e
theorem all_map (f : W → Bool) (cs : List W) : asBls (cs.map fun w => W.bl (f w)) = some (cs.map f) := by
  have := asBls_map (cs.map f)
  rwa [List.map_map] at this
theorem all_true {cs : List W} : asBls (cs.map fun _ => W.bl true) = some (cs.map fun _ => true) := all_map _ _
section
variable {k : Nat} {z : SS} {r : G} {many loc : Int} {rows : List W}
theorem is_whole_ok (i : Int) : callN T (k + 1) 0 [.int i] (hp z r) = .ok (.bl true) (hp z r) :=
  R.To.eq (call_To at0 rfl (by exists Fis_whole_0, Fis_whole_t0, startE, isTy, R.of))
theorem is_word_ok {i : Int} (h : IsWord i) : callN T (k + 2) 1 [.int i] (hp z r) = .ok (.bl true) (hp z r) := by
  unfold IsWord at h
  obtain ⟨h1, h2⟩ := h
  refine R.To.eq (call_To at1 rfl ?_)
  have := is_whole_ok (k := k) (z := z) (r := r) i
  exists Fis_word_0, Fis_word_t0, startE, this, h1, h2
theorem is_below_ok {i m : Int} (h1 : 0 ≤ i) (h2 : i < m) : callN T (k + 2) 21 [.int i, .int m] (hp z r) = .ok (.bl true) (hp z r) := by
  refine R.To.eq (call_To at21 rfl ?_)
  have := is_whole_ok (k := k) (z := z) (r := r) i
  exists Fis_below_0, Fis_below_t0, startE, this, h1, h2
theorem is_name_ok {c : Nat} (h : c ∈ [97, 98, 99, 100, 101, 102, 103, 104, 105, 106, 107, 108, 109, 110, 111, 112, 113, 114, 115, 116, 117, 118, 119, 120, 121, 122]) : callN T (k + 1) 15 [.str [c]] (hp z r) = .ok (.bl true) (hp z r) := by
  refine R.To.eq (call_To at15 rfl ?_)
  have hin : Cop.run .in_ (.str [c]) (.str [97, 98, 99, 100, 101, 102, 103, 104, 105, 106, 107, 108, 109, 110, 111, 112, 113, 114, 115, 116, 117, 118, 119, 120, 121, 122]) (hp z r) = some true := by
    show some (List.contains _ c) = some true
    simpa using h
  have hni : Cop.run .notin (.str [c]) (.str [97, 98, 99, 100, 101, 102, 103, 104, 105, 106, 107, 108, 109, 110, 111, 112, 113, 114, 115, 116, 117, 118, 119, 120, 121, 122]) (hp z r) = some false := by
    have : Cop.run .notin (.str [c]) (.str [97, 98, 99, 100, 101, 102, 103, 104, 105, 106, 107, 108, 109, 110, 111, 112, 113, 114, 115, 116, 117, 118, 119, 120, 121, 122]) (hp z r) = (Cop.run .in_ (.str [c]) (.str [97, 98, 99, 100, 101, 102, 103, 104, 105, 106, 107, 108, 109, 110, 111, 112, 113, 114, 115, 116, 117, 118, 119, 120, 121, 122]) (hp z r)).map (!·) := rfl
    rw [this, hin]
    rfl
  exists Fis_name_t0, Fis_name_0, startE, isTy, R.of, hni, Fis_name_t1, Fis_name_1, wipeE, compV, hin, asBls
theorem is_one_of_ok {s : List Nat} {l : List (List Nat)} (h : s ∈ l) : callN T (k + 1) 16 [.str s, .tup (l.map W.str)] (hp z r) = .ok (.bl true) (hp z r) := by
  refine R.To.eq (call_To at16 rfl ?_)
  have hin : Cop.run .in_ (.str s) (.tup (l.map W.str)) (hp z r) = some true := by
    have hf : (l.map W.str).all flatW = true := by simp [flatW]
    have ha : (l.map W.str).any (fun w => seqb w (.str s)) = true := by
      simp only [List.any_map, List.any_eq_true]
      exact ⟨s, h, by simp [seqb]⟩
    simp only [Cop.run, inW, hf, flatW, Bool.and_self, if_true, ha]
  exists Fis_one_of_0, Fis_one_of_t0, startE, isTy, R.of, hin
theorem is_pair_ok {c : Nat} {w : W} (h : c ∈ [97, 98, 99, 100, 101, 102, 103, 104, 105, 106, 107, 108, 109, 110, 111, 112, 113, 114, 115, 116, 117, 118, 119, 120, 121, 122]) : callN T (k + 2) 17 [.tup [.str [c], w]] (hp z r) = .ok (.bl true) (hp z r) := by
  refine R.To.eq (call_To at17 rfl ?_)
  have := is_name_ok (k := k) (z := z) (r := r) h
  exists Fis_pair_0, Fis_pair_t0, startE, isTy, R.of, this
theorem are_params_ok : callN T (k + 3) 18 [pw61] (hp z r) = .ok (.bl true) (hp z r) := by
  refine R.To.eq (call_To at18 rfl ?_)
  have p1 := fun w => is_pair_ok (k := k) (z := z) (r := r) (c := 97) (w := w) (by decide)
  have p2 := fun w => is_pair_ok (k := k) (z := z) (r := r) (c := 110) (w := w) (by decide)
  have p3 := fun w => is_pair_ok (k := k) (z := z) (r := r) (c := 98) (w := w) (by decide)
  have p4 := fun w => is_pair_ok (k := k) (z := z) (r := r) (c := 109) (w := w) (by decide)
  have p5 := fun w => is_pair_ok (k := k) (z := z) (r := r) (c := 111) (w := w) (by decide)
  have o1 := is_one_of_ok (k := k + 1) (z := z) (r := r) (s := [105, 110, 116]) (l := [[105, 110, 116], [98, 117, 102, 102, 101, 114]]) (by decide)
  have o2 := is_one_of_ok (k := k + 1) (z := z) (r := r) (s := [98, 117, 102, 102, 101, 114]) (l := [[105, 110, 116], [98, 117, 102, 102, 101, 114]]) (by decide)
  simp only [List.map_cons, List.map_nil] at o1 o2
  exists Fare_params_t0, Fare_params_0, startE, isTy, R.of, pw61, sInt, sBuf, Fare_params_t1, Fare_params_1, compV, wipeE, p1, p2, p3, p4, p5, o1, o2, asBls
theorem are_shared_ok : callN T (k + 3) 19 [sw61] (hp z r) = .ok (.bl true) (hp z r) := by
  refine R.To.eq (call_To at19 rfl ?_)
  have p1 := fun w => is_pair_ok (k := k) (z := z) (r := r) (c := 115) (w := w) (by decide)
  have p2 := fun w => is_pair_ok (k := k) (z := z) (r := r) (c := 116) (w := w) (by decide)
  have p3 := fun w => is_pair_ok (k := k) (z := z) (r := r) (c := 117) (w := w) (by decide)
  have o1 := fun i => is_whole_ok (k := k + 1) (z := z) (r := r) i
  exists Fare_shared_t0, Fare_shared_0, startE, isTy, R.of, sw61, Fare_shared_t1, Fare_shared_1, compV, wipeE, p1, p2, p3, o1, asBls
theorem have_names_ok : callN T (k + 1) 20 [pw61, sw61] (hp z r) = .ok (.bl true) (hp z r) := by
  refine R.To.eq (call_To at20 rfl ?_)
  exists Fhave_names_t0, Fhave_names_0, startE, R.of, pw61, sw61, compV, wipeE, Fhave_names_t1, Fhave_names_1, asStrs, dcN
end

end Kx
namespace Kx
open Dl PySem
local macro_rules
  | `(tactic| exists $es,*) => `(tactic| simp [ev, evl, tst, its, src, ex, Tg.putS, Tg.put, $[$es:term],*])
abbrev wK : List (List Nat) := [[115], [117], [98], [102]]
abbrev wV : List W := [(.tup [(.str [116, 105, 100]), (.str [98, 105, 100]), (.str [100, 105, 109]), (.str [103, 114, 105, 100])]), (.tup [(.str [110, 101, 103]), (.str [110, 111, 116]), (.str [122, 101, 114, 111])]), (.tup [(.str [97, 100, 100]), (.str [115, 117, 98]), (.str [109, 117, 108]), (.str [100, 105, 118]), (.str [114, 101, 109]), (.str [97, 110, 100]), (.str [111, 114]), (.str [120, 111, 114]), (.str [115, 104, 108]), (.str [115, 104, 114]), (.str [108, 116]), (.str [108, 101]), (.str [101, 113]), (.str [110, 101]), (.str [109, 105, 110]), (.str [109, 97, 120])]), (.tup [(.str [97, 100, 100]), (.str [109, 105, 110]), (.str [109, 97, 120]), (.str [97, 110, 100]), (.str [111, 114]), (.str [120, 111, 114])])]
abbrev fK : List (List Nat) := [[119, 111, 114, 100], [112, 97, 114, 97, 109], [115, 112, 101, 99, 105, 97, 108], [99, 111, 112, 121], [117, 110, 97, 114, 121], [98, 105, 110, 97, 114, 121], [108, 111, 97, 100], [115, 116, 111, 114, 101], [97, 116, 111, 109, 105, 99], [98, 97, 114, 114, 105, 101, 114], [99, 111, 108, 108, 101, 99, 116], [103, 101, 116], [107, 101, 101, 112], [106, 117, 109, 112], [101, 120, 105, 116], [98, 114, 97, 110, 99, 104]]
abbrev fV : List W := [(.str [114, 110]), (.str [114, 112]), (.str [114, 115]), (.str [114, 114]), (.str [117, 114, 114]), (.str [98, 114, 114, 114]), (.str [114, 97, 114]), (.str [97, 114, 114]), (.str [102, 97, 114, 114]), (.str [109]), (.str [102, 114, 114, 109]), (.str [114, 108]), (.str [108, 114]), (.str [107]), (.str []), (.str [114, 107, 106])]
theorem w_in (c : Nat) (h : c ∈ [115, 117, 98, 102]) (g : G) : Cop.run .in_ (.str [c]) (.fd wK wV) g = some true := by
  simp only [List.mem_cons, List.not_mem_nil, or_false] at h
  rcases h with rfl | rfl | rfl | rfl <;> rfl
theorem w_out (c : Nat) (h : c ∈ [110, 112, 97, 114, 109, 108, 107, 106]) (g : G) : Cop.run .in_ (.str [c]) (.fd wK wV) g = some false := by
  simp only [List.mem_cons, List.not_mem_nil, or_false] at h
  rcases h with rfl | rfl | rfl | rfl | rfl | rfl | rfl | rfl <;> rfl
section
variable {k : Nat} {z : SS} {r : G} {many loc : Int} {rows : List W}
theorem is_array_ok {a : Int} (h : a = 0 ∨ a = 2 ∨ a = 6 ∨ a = 7 ∨ a = 8) : callN T (k + 2) 22 [.int a, codeW loc rows] (hp z r) = .ok (.bl true) (hp z r) := by
  refine R.To.eq (call_To at22 rfl ?_)
  have o1 := fun i => is_whole_ok (k := k) (z := z) (r := r) i
  rcases h with rfl | rfl | rfl | rfl | rfl <;> exists Fis_array_0a0, Fis_array_0a_t0, Fis_array_0, Fis_array_1a0, Fis_array_1a_t0, Fis_array_1, Fis_array_2, Fis_array_t2, Fis_array_t1, Fis_array_t0, startE, o1, R.of, codeW, pw61, sw61, sBuf, sInt
/-- one part of an instruction -/
def Part (k : Nat) (z : SS) (r : G) (loc : Int) (rows : List W) (c : Nat) (w : W) : Prop := callN T (k + 4) 23 [.str [c], w, codeW loc rows] (hp z r) = .ok (.bl true) (hp z r)
theorem part_words {c : Nat} {s : List Nat} {l : List (List Nat)} (hg : getFd wK wV [c] = some (.tup (l.map W.str))) (hc : c ∈ [115, 117, 98, 102]) (h : s ∈ l) : Part k z r loc rows c (.str s) := by
  refine R.To.eq (call_To at23 rfl ?_)
  have o := is_one_of_ok (k := k + 2) (z := z) (r := r) h
  have hi := w_in c hc (hp z r)
  exists Fis_part_t0, Fis_part_0, Fis_part_0a_t0, Fis_part_0a0, startE, hi, hg, R.of, o
theorem part_s {s : List Nat} (h : s ∈ ([[116, 105, 100], [98, 105, 100], [100, 105, 109], [103, 114, 105, 100]] : List (List Nat))) : Part k z r loc rows 115 (.str s) := part_words rfl (by decide) h
theorem part_u {s : List Nat} (h : s ∈ unL) : Part k z r loc rows 117 (.str s) := part_words (l := [[110, 101, 103], [110, 111, 116], [122, 101, 114, 111]]) rfl (by decide) h
theorem part_b {s : List Nat} (h : s ∈ opsL) : Part k z r loc rows 98 (.str s) := part_words (l := [[97, 100, 100], [115, 117, 98], [109, 117, 108], [100, 105, 118], [114, 101, 109], [97, 110, 100], [111, 114], [120, 111, 114], [115, 104, 108], [115, 104, 114], [108, 116], [108, 101], [101, 113], [110, 101], [109, 105, 110], [109, 97, 120]]) rfl (by decide) (by revert s; decide)
theorem part_f {s : List Nat} (h : s ∈ foldL) : Part k z r loc rows 102 (.str s) := part_words (l := [[97, 100, 100], [109, 105, 110], [109, 97, 120], [97, 110, 100], [111, 114], [120, 111, 114]]) rfl (by decide) (by revert s; decide)
theorem part_n {i : Int} (h : IsWord i) : Part k z r loc rows 110 (.int i) := by
  refine R.To.eq (call_To at23 rfl ?_)
  have o := is_word_ok (k := k + 1) (z := z) (r := r) h
  have hi := w_out 110 (by decide) (hp z r)
  exists Fis_part_t0, Fis_part_0, startE, hi, R.of, Fis_part_t1, Fis_part_1, Fis_part_1a_t0, Fis_part_1a0, o
theorem part_p {i : Int} (h : i = 1 ∨ i = 3 ∨ i = 4) : Part k z r loc rows 112 (.int i) := by
  refine R.To.eq (call_To at23 rfl ?_)
  have o := is_below_ok (k := k + 1) (z := z) (r := r) (i := i) (m := 5) (by omega) (by omega)
  have hi := w_out 112 (by decide) (hp z r)
  rcases h with rfl | rfl | rfl <;> exists Fis_part_t0, Fis_part_0, startE, hi, R.of, Fis_part_t1, Fis_part_1, Fis_part_t2, Fis_part_2, Fis_part_2a_t0, Fis_part_2a0, codeW, pw61, sInt, o
theorem part_a {i : Int} (h : i = 0 ∨ i = 2 ∨ i = 6 ∨ i = 7 ∨ i = 8) : Part k z r loc rows 97 (.int i) := by
  refine R.To.eq (call_To at23 rfl ?_)
  have o := is_array_ok (k := k + 1) (z := z) (r := r) (loc := loc) (rows := rows) h
  have hi := w_out 97 (by decide) (hp z r)
  exists Fis_part_t0, Fis_part_0, startE, hi, R.of, Fis_part_t1, Fis_part_1, Fis_part_t2, Fis_part_2, Fis_part_t3, Fis_part_3, Fis_part_3a_t0, Fis_part_3a0, o
theorem part_num {c : Nat} {i m : Int} (hc : c ∈ [114, 109, 108, 107, 106]) (h0 : 0 ≤ i) (h1 : i < m) (hm : getD [(.str [114], .int 8), (.str [109], .int 100), (.str [108], .int loc), (.str [107], .int rows.length), (.str [106], .int (rows.length + 1))] (.str [c]) = some (.int m)) : Part k z r loc rows c (.int i) := by
  refine R.To.eq (call_To at23 rfl ?_)
  have o := fun g : G => is_below_ok (k := k + 1) (z := z) (r := g) h0 h1
  have hi := w_out c (by simp at hc ⊢; omega) (hp z r)
  have n1 : ¬ c = 110 := by rintro rfl; revert hc; decide
  have n2 : ¬ c = 112 := by rintro rfl; revert hc; decide
  have n3 : ¬ c = 97 := by rintro rfl; revert hc; decide
  have w1 : weq (W.str [114]) (W.str [109]) = false := by decide
  have w2 : weq (W.str [114]) (W.str [108]) = false := by decide
  have w3 : weq (W.str [114]) (W.str [107]) = false := by decide
  have w4 : weq (W.str [114]) (W.str [106]) = false := by decide
  have w5 : weq (W.str [109]) (W.str [108]) = false := by decide
  have w6 : weq (W.str [109]) (W.str [107]) = false := by decide
  have w7 : weq (W.str [109]) (W.str [106]) = false := by decide
  have w8 : weq (W.str [108]) (W.str [107]) = false := by decide
  have w9 : weq (W.str [108]) (W.str [106]) = false := by decide
  have w0 : weq (W.str [107]) (W.str [106]) = false := by decide
  exists Fis_part_t0, Fis_part_0, startE, hi, R.of, Fis_part_t1, Fis_part_1, n1, Fis_part_t2, Fis_part_2, n2, Fis_part_t3, Fis_part_3, n3, Fis_part_t4, Fis_part_4, Fis_part_t5, Fis_part_5, codeW, pairW, fits, putD, w0, w1, w2, w3, w4, w5, w6, w7, w8, w9, hm, o
theorem part_r {i : Int} (h : Reg i) : Part k z r loc rows 114 (.int i) := part_num (by decide) h.1 h.2 rfl
theorem part_m {i : Int} (h0 : 0 ≤ i) (h1 : i < 100) : Part k z r loc rows 109 (.int i) := part_num (by decide) h0 h1 rfl
theorem part_l {i : Int} (h0 : 0 ≤ i) (h1 : i < loc) : Part k z r loc rows 108 (.int i) := part_num (by decide) h0 h1 rfl
theorem part_k {i : Int} (h0 : 0 ≤ i) (h1 : i < rows.length) : Part k z r loc rows 107 (.int i) := part_num (by decide) h0 h1 rfl
theorem part_j {i : Int} (h0 : 0 ≤ i) (h1 : i ≤ rows.length) : Part k z r loc rows 106 (.int i) := part_num (m := rows.length + 1) (by decide) h0 (by omega) rfl
def forms : List (List Nat × List Nat) := [([119, 111, 114, 100], [114, 110]), ([112, 97, 114, 97, 109], [114, 112]), ([115, 112, 101, 99, 105, 97, 108], [114, 115]), ([99, 111, 112, 121], [114, 114]), ([117, 110, 97, 114, 121], [117, 114, 114]), ([98, 105, 110, 97, 114, 121], [98, 114, 114, 114]), ([108, 111, 97, 100], [114, 97, 114]), ([115, 116, 111, 114, 101], [97, 114, 114]), ([97, 116, 111, 109, 105, 99], [102, 97, 114, 114]), ([98, 97, 114, 114, 105, 101, 114], [109]), ([99, 111, 108, 108, 101, 99, 116], [102, 114, 114, 109]), ([103, 101, 116], [114, 108]), ([107, 101, 101, 112], [108, 114]), ([106, 117, 109, 112], [107]), ([101, 120, 105, 116], []), ([98, 114, 97, 110, 99, 104], [114, 107, 106])]
theorem instr_ok {s F : List Nat} {vs : List W} (hs : (s, F) ∈ forms) (hl : vs.length = F.length) (hp' : ∀ i (h : i < F.length) (h2 : i < vs.length), Part k z r loc rows F[i] vs[i]) : callN T (k + 5) 24 [.tup (.str s :: vs), codeW loc rows] (hp z r) = .ok (.bl true) (hp z r) := by
  refine R.To.eq (call_To at24 rfl ?_)
  have hF : F.length ≤ 4 := (show ∀ p ∈ forms, p.2.length ≤ 4 by decide) _ hs
  have l1 := lim_ok (n := F.length) (by omega) (by omega)
  have l2 := lim_le (n := F.length) (by omega)
  have hlen : ((vs.length : Int) + 1 = F.length + 1) := by omega
  have hcomp := compR_map (i := 3) (c := tst T (callN T (k + 4)) (.cst (.bl true))) (el := ev T (callN T (k + 4)) (.call 23 (.cons (.idx (.var 2) (.var 3)) (.cons (.idx (.var 0) (.bop .add (.var 3) (.cst (.int (1))))) (.cons (.var 1) .nil))))) (ρ := [some (.tup (.str s :: vs)), some (codeW loc rows), some (.str F), none]) (f := fun _ => W.bl true) (n := F.length) (g := hp z r) (fun i hi => by
    have h2 : i < vs.length := by omega
    have e1 : atW F i = some F[i] := by rw [atW_nat]; simp [hi]
    have e2 : atW (.str s :: vs) ((i : Int) + 1) = some vs[i] := by
      rw [show ((i : Int) + 1) = ((i + 1 : Nat) : Int) by omega, atW_nat]
      simp [h2]
    have e3 := hp' i hi h2
    unfold Part at e3
    exact ⟨by simp [tst, ev], by simp [ev, evl, e1, e2, e3, R.of, lim_le (n := F.length) (by omega)]⟩)
  have hall : asBls ((List.range F.length).map fun _ => W.bl true) = some ((List.range F.length).map fun _ => true) := by
    have := asBls_map ((List.range F.length).map fun _ => true)
    rwa [List.map_map] at this
  have hid : ((List.range F.length).map fun _ => true).all id = true := by simp
  have hget : getFd fK fV s = some (.str F) := by
    have : ∀ p ∈ forms, getFd fK fV p.1 = some (.str p.2) := by
      intro p hp
      simp only [forms, List.mem_cons, List.not_mem_nil, or_false] at hp
      rcases hp with rfl | rfl | rfl | rfl | rfl | rfl | rfl | rfl | rfl | rfl | rfl | rfl | rfl | rfl | rfl | rfl <;> rfl
    exact this _ hs
  have hni : Cop.run .notin (.str s) (.fd fK fV) (hp z r) = some false := by
    have : Cop.run .notin (.str s) (.fd fK fV) (hp z r) = (some (getFd fK fV s).isSome).map (!·) := rfl
    rw [this, hget]
    rfl
  have hF2 : F.length ≤ lim := lim_le (by omega)
  have hpos : (0 : Nat) < (W.str s :: vs).length := by simp
  exists Fis_instruction_t0, Fis_instruction_0, startE, isTy, R.of, hni, hget, hF2, Fis_instruction_t1, Fis_instruction_1, Fis_instruction_t2, Fis_instruction_2, hlen, l1, l2, wipeE, hcomp, hall, hid
theorem ins_ok {w : W} (hl : (rows.length : Int) = many) (h : Ins (cf61 many loc) w) : callN T (k + 5) 24 [w, codeW loc rows] (hp z r) = .ok (.bl true) (hp z r) := by
  cases h with
  | word d n hd hn =>
    refine instr_ok (F := [114, 110]) (by simp [forms]) rfl fun i h h2 => ?_
    rcases i with _ | _ | i
    · exact part_r hd
    · exact part_n hn
    · exact absurd h (by simp)
  | param d n hd hn =>
    refine instr_ok (F := [114, 112]) (by simp [forms]) rfl fun i h h2 => ?_
    rcases i with _ | _ | i
    · exact part_r hd
    · exact part_p hn
    · exact absurd h (by simp)
  | special d n hd hn =>
    refine instr_ok (F := [114, 115]) (by simp [forms]) rfl fun i h h2 => ?_
    rcases i with _ | _ | i
    · exact part_r hd
    · exact part_s hn
    · exact absurd h (by simp)
  | copy d n hd hn =>
    refine instr_ok (F := [114, 114]) (by simp [forms]) rfl fun i h h2 => ?_
    rcases i with _ | _ | i
    · exact part_r hd
    · exact part_r hn
    · exact absurd h (by simp)
  | unary op d n ho hd hn =>
    refine instr_ok (F := [117, 114, 114]) (by simp [forms]) rfl fun i h h2 => ?_
    rcases i with _ | _ | _ | i
    · exact part_u ho
    · exact part_r hd
    · exact part_r hn
    · exact absurd h (by simp)
  | binary op d n m ho hd hn hm =>
    refine instr_ok (F := [98, 114, 114, 114]) (by simp [forms]) rfl fun i h h2 => ?_
    rcases i with _ | _ | _ | _ | i
    · exact part_b ho
    · exact part_r hd
    · exact part_r hn
    · exact part_r hm
    · exact absurd h (by simp)
  | load d a n hd ha hn =>
    refine instr_ok (F := [114, 97, 114]) (by simp [forms]) rfl fun i h h2 => ?_
    rcases i with _ | _ | _ | i
    · exact part_r hd
    · exact part_a ha
    · exact part_r hn
    · exact absurd h (by simp)
  | store a n m ha hn hm =>
    refine instr_ok (F := [97, 114, 114]) (by simp [forms]) rfl fun i h h2 => ?_
    rcases i with _ | _ | _ | i
    · exact part_a ha
    · exact part_r hn
    · exact part_r hm
    · exact absurd h (by simp)
  | atomic op a n m ho ha hn hm =>
    refine instr_ok (F := [102, 97, 114, 114]) (by simp [forms]) rfl fun i h h2 => ?_
    rcases i with _ | _ | _ | _ | i
    · exact part_f ho
    · exact part_a ha
    · exact part_r hn
    · exact part_r hm
    · exact absurd h (by simp)
  | barrier n h0 h1 =>
    refine instr_ok (F := [109]) (by simp [forms]) rfl fun i h h2 => ?_
    rcases i with _ | i
    · exact part_m h0 h1
    · exact absurd h (by simp)
  | collect op d n m ho hd hn h0 h1 =>
    refine instr_ok (F := [102, 114, 114, 109]) (by simp [forms]) rfl fun i h h2 => ?_
    rcases i with _ | _ | _ | _ | i
    · exact part_f ho
    · exact part_r hd
    · exact part_r hn
    · exact part_m h0 h1
    · exact absurd h (by simp)
  | get d n hd h0 h1 =>
    refine instr_ok (F := [114, 108]) (by simp [forms]) rfl fun i h h2 => ?_
    rcases i with _ | _ | i
    · exact part_r hd
    · exact part_l h0 h1
    · exact absurd h (by simp)
  | keep n m h0 h1 hm =>
    refine instr_ok (F := [108, 114]) (by simp [forms]) rfl fun i h h2 => ?_
    rcases i with _ | _ | i
    · exact part_l h0 h1
    · exact part_r hm
    · exact absurd h (by simp)
  | jump n h0 h1 =>
    refine instr_ok (F := [107]) (by simp [forms]) rfl fun i h h2 => ?_
    rcases i with _ | i
    · exact part_k h0 (by have : n < many := h1; omega)
    · exact absurd h (by simp)
  | exit =>
    refine instr_ok (F := []) (by simp [forms]) rfl fun i h h2 => ?_
    exact absurd h (by simp)
  | branch n m j hn h0 h1 h2' h3 =>
    refine instr_ok (F := [114, 107, 106]) (by simp [forms]) rfl fun i h h2 => ?_
    rcases i with _ | _ | _ | i
    · exact part_r hn
    · exact part_k h0 (by have : m < many := h1; omega)
    · exact part_j h2' (by have : j ≤ many := h3; omega)
    · exact absurd h (by simp)
theorem check_code_ok (hC : Code61 many loc rows) : callN T (k + 6) 25 [codeW loc rows] (hp z r) = .ok .non (hp z r) := by
  refine R.To.eq (call_To at25 rfl ?_)
  have e1 := is_below_ok (k := k + 3) (z := z) (r := r) (i := loc) (m := 65) hC.l0 (by have := hC.l6; omega)
  have e2 := are_params_ok (k := k + 2) (z := z) (r := r)
  have e3 := are_shared_ok (k := k + 2) (z := z) (r := r)
  have e4 := have_names_ok (k := k + 4) (z := z) (r := r)
  have hm3 := hC.m3
  have hm14 := hC.m14
  have hlen := hC.len
  have n1 : 1 ≤ (rows.length : Int) := by omega
  have n2 : (rows.length : Int) ≤ 2000 := by omega
  have l2 : rows.length ≤ lim := lim_le (by omega)
  have hcomp := compV_map (t := .nm 2) (c := tst T (callN T (k + 5)) (.cst (.bl true))) (el := ev T (callN T (k + 5)) (.call 24 (.cons (.var 2) (.cons (.var 0) .nil)))) (ρ := [some (codeW loc rows), some (.tup rows), none]) (f := fun _ => W.bl true) (ws := rows) (g := hp z r) (fun w hw => ⟨_, rfl, by simp [tst, ev], by
    have := ins_ok (k := k) (z := z) (r := r) hlen (hC.ins w hw)
    simp [ev, evl, this]⟩)
  have hall : asBls (rows.map fun _ => W.bl true) = some (rows.map fun _ => true) := all_true
  have hid : (rows.map fun _ => true).all id = true := by simp
  obtain ⟨init, w, ei, hw⟩ := hC.last
  have hat : atW rows (-1) = some w := by
    rw [ei]
    simp only [atW, ixW, List.length_append, List.length_cons, List.length_nil]
    rw [if_neg (by decide), if_pos (by omega)]
    simp [show (-1 + ((init.length : Int) + 1)).toNat = init.length by omega]
  have hni : ∀ s ∈ ([[101, 120, 105, 116], [106, 117, 109, 112]] : List (List Nat)), Cop.run .notin (.str s) (.tup [.str [101, 120, 105, 116], .str [106, 117, 109, 112]]) (hp z r) = some false := by
    intro s hs
    simp only [List.mem_cons, List.not_mem_nil, or_false] at hs
    rcases hs with rfl | rfl <;> rfl
  have n0 := hni _ (by decide : [101, 120, 105, 116] ∈ _)
  have n3 := hni _ (by decide : [106, 117, 109, 112] ∈ _)
  unfold codeW at hcomp
  clear ei hC
  rcases hw with rfl | ⟨n, _, _, rfl⟩ <;>
    exists Fcheck_code_t0, Fcheck_code_0, startE, isTy, R.of, codeW, e1, Fcheck_code_t1, Fcheck_code_1, e2, e3, e4, Fcheck_code_t2, Fcheck_code_2, Fcheck_code_t3, Fcheck_code_3, n1, n2, Fcheck_code_t4, Fcheck_code_4, l2, wipeE, hcomp, hall, hid, hat, n0, n3
end

end Kx
namespace Kx
open Dl PySem
local macro_rules
  | `(tactic| exists $es,*) => `(tactic| simp [ev, evl, tst, its, src, ex, Tg.putS, Tg.put, $[$es:term],*])
def laneW (a : Int) (ws cs : List Int) : W := .tup [.int a, .tup (ws.map W.int), .tup (cs.map W.int)]
theorem reg_at {ws : List Int} (hl : ws.length = 8) {n : Int} (h : Reg n) : ∃ x, atW (ws.map W.int) n = some (.int x) ∧ x ∈ ws := by
  obtain ⟨x, e, hx⟩ := atW_mem (xs := ws.map W.int) (v := n) h.1 (by rw [List.length_map, hl]; exact h.2)
  obtain ⟨v, hv, rfl⟩ := List.mem_map.mp hx
  exact ⟨v, e, hv⟩
/-- scalars of a request -/
def Sc (x : W) : Prop := (∃ i : Int, x = .int i) ∨ ∃ s, x = .str s ∧ (s.all fun c => decide (c < 1114112)) = true
theorem fold_sc {op : List Nat} (h : op ∈ foldL) : Sc (.str op) := .inr ⟨op, rfl, by revert op; decide⟩
section
variable {k : Nat} {z : SS} {r : G} {w : W} {rows : List W} {at_ loc many : Int} {ws cs : List Int}
theorem c_unary (a : Int) : ∀ op ∈ unL, callN T (k + 2) 8 [.str op, .int a] (hp z r) = .ok (.int (unI op a)) (hp z r) := by
  intro op ho
  have w0 := fun (n : Int) (g : G) => c_wrapped k n g
  refine R.To.eq (call_To at8 rfl ?_)
  simp only [unL, List.mem_cons, List.not_mem_nil, or_false] at ho
  rcases ho with rfl | rfl | rfl
  · exists Funary_t0, Funary_0, Funary_0a_t0, Funary_0a0, startE, w0, unI
  · exists Funary_t0, Funary_0, startE, Funary_t1, Funary_1, Funary_1a_t0, Funary_1a0, w0, unI
  · exists Funary_t0, Funary_0, startE, Funary_t1, Funary_1, Funary_t2, Funary_2, unI
theorem c_lun (a : Int) : ∀ op ∈ unL, callN T (k + 2) 33 [.str op, .int a] (hp z r) = .ok (.int (unI op a)) (hp z r) := by
  intro op ho
  have w0 := fun (n : Int) (g : G) => c_lwrapped k n g
  refine R.To.eq (call_To at33 rfl ?_)
  simp only [unL, List.mem_cons, List.not_mem_nil, or_false] at ho
  have hn : weq (W.str [110, 101, 103]) (W.str [110, 111, 116]) = false := by decide
  have e1 : 0 - a = -a := by omega
  rcases ho with rfl | rfl | rfl
  · exists Lunary_t0, Lunary_0, startE, Lunary_t1, Lunary_1, pairW, fits, putD, getD, hn, weq_refl, R.of, w0, unI, e1
  · exists Lunary_t0, Lunary_0, startE, Lunary_t1, Lunary_1, pairW, fits, putD, getD, hn, weq_refl, R.of, w0, unI, e1
  · exists Lunary_t0, Lunary_0, startE, Lunary_0a_t0, Lunary_0a0, unI
def ReqOk (k : Nat) (z : SS) (r : G) (rows : List W) (at_ loc : Int) (ws cs : List Int) : Prop := ∃ l : List W, l.length ≤ 5 ∧ (∀ x ∈ l, Sc x) ∧
    callN T (k + 1) 11 [codeW loc rows, laneW at_ ws cs] (hp z r) = .ok (.tup l) (hp z r) ∧ callN T (k + 1) 40 [codeW loc rows, laneW at_ ws cs] (hp z r) = .ok (.tup l) (hp z r)
theorem req_key (l : List W) (h1 : (callN T (k + 1) 11 [codeW loc rows, laneW at_ ws cs] (hp z r)).To (fun x g => x = .tup l ∧ g = hp z r) noX) (h2 : (callN T (k + 1) 40 [codeW loc rows, laneW at_ ws cs] (hp z r)).To (fun x g => x = .tup l ∧ g = hp z r) noX) (h3 : l.length ≤ 5) (h4 : ∀ x ∈ l, Sc x) : ReqOk k z r rows at_ loc ws cs :=
  ⟨l, h3, h4, R.To.eq h1, R.To.eq h2⟩
theorem req_ok (hl : ws.length = 8) (he : atW rows at_ = some w) (hw : Ins (cf61 many loc) w) : ReqOk k z r rows at_ loc ws cs := by
  cases hw with
  | load d a r1 hd ha hr =>
    obtain ⟨x, ex1, hx⟩ := reg_at hl hr
    refine req_key [.str [108, 111, 97, 100], .int a, .int x] (call_To at11 rfl ?_) (call_To at40 rfl ?_) (by simp) ?_
    · exists Frequest_t0, Frequest_0, startE, codeW, laneW, setAll, Frequest_t1, Frequest_1, he, Frequest_t2, Frequest_2, Frequest_t3, Frequest_3, Frequest_3a_t0, Frequest_3a0, ex1
    · exists Lrequest_t0, Lrequest_0, startE, codeW, laneW, he, Lrequest_t1, Lrequest_1, Lrequest_t2, Lrequest_2, Lrequest_2a_t0, Lrequest_2a0, ex1
    · intro y hy
      simp at hy
      rcases hy with rfl | rfl | rfl
      · exact .inr ⟨_, rfl, by decide⟩
      · exact .inl ⟨a, rfl⟩
      · exact .inl ⟨x, rfl⟩
  | store a r1 s1 ha hr hs =>
    obtain ⟨x, ex1, hx⟩ := reg_at hl hr
    obtain ⟨y, ey1, hy1⟩ := reg_at hl hs
    refine req_key [.str [115, 116, 111, 114, 101], .int a, .int x, .int y] (call_To at11 rfl ?_) (call_To at40 rfl ?_) (by simp) ?_
    · exists Frequest_t0, Frequest_0, startE, codeW, laneW, setAll, Frequest_t1, Frequest_1, he, Frequest_t2, Frequest_2, Frequest_t3, Frequest_3, Frequest_t4, Frequest_4, Frequest_4a_t0, Frequest_4a0, ex1, ey1
    · exists Lrequest_t0, Lrequest_0, startE, codeW, laneW, he, Lrequest_t1, Lrequest_1, Lrequest_t2, Lrequest_2, Lrequest_t3, Lrequest_3, Lrequest_3a_t0, Lrequest_3a0, ex1, ey1
    · intro q hq
      simp at hq
      rcases hq with rfl | rfl | rfl | rfl
      · exact .inr ⟨_, rfl, by decide⟩
      · exact .inl ⟨a, rfl⟩
      · exact .inl ⟨x, rfl⟩
      · exact .inl ⟨y, rfl⟩
  | atomic op a r1 s1 ho ha hr hs =>
    obtain ⟨x, ex1, hx⟩ := reg_at hl hr
    obtain ⟨y, ey1, hy1⟩ := reg_at hl hs
    refine req_key [.str [97, 116, 111, 109, 105, 99], .str op, .int a, .int x, .int y] (call_To at11 rfl ?_) (call_To at40 rfl ?_) (by simp) ?_
    · exists Frequest_t0, Frequest_0, startE, codeW, laneW, setAll, Frequest_t1, Frequest_1, he, Frequest_t2, Frequest_2, Frequest_t3, Frequest_3, Frequest_t4, Frequest_4, Frequest_t5, Frequest_5, Frequest_5a_t0, Frequest_5a0, ex1, ey1
    · exists Lrequest_t0, Lrequest_0, startE, codeW, laneW, he, Lrequest_t1, Lrequest_1, Lrequest_t2, Lrequest_2, Lrequest_t3, Lrequest_3, Lrequest_t4, Lrequest_4, Lrequest_4a_t0, Lrequest_4a0, ex1, ey1
    · intro q hq
      simp at hq
      rcases hq with rfl | rfl | rfl | rfl | rfl
      · exact .inr ⟨_, rfl, by decide⟩
      · exact fold_sc ho
      · exact .inl ⟨a, rfl⟩
      · exact .inl ⟨x, rfl⟩
      · exact .inl ⟨y, rfl⟩
  | collect op d r1 n ho hd hr h0 h1 =>
    obtain ⟨x, ex1, hx⟩ := reg_at hl hr
    refine req_key [.str [99, 111, 108, 108, 101, 99, 116], .str op, .int x, .int n] (call_To at11 rfl ?_) (call_To at40 rfl ?_) (by simp) ?_
    · exists Frequest_t0, Frequest_0, startE, codeW, laneW, setAll, Frequest_t1, Frequest_1, he, Frequest_t2, Frequest_2, Frequest_t3, Frequest_3, Frequest_t4, Frequest_4, Frequest_t5, Frequest_5, Frequest_t6, Frequest_6, Frequest_t7, Frequest_7, Frequest_7a_t0, Frequest_7a0, ex1, Cop.run, inW, flatW, seqb, eqW, scal2
    · exists Lrequest_t0, Lrequest_0, startE, codeW, laneW, he, Lrequest_t1, Lrequest_1, Lrequest_t2, Lrequest_2, Lrequest_t3, Lrequest_3, Lrequest_t4, Lrequest_4, Lrequest_t5, Lrequest_5, Lrequest_5a_t0, Lrequest_5a0, ex1
    · intro q hq
      simp at hq
      rcases hq with rfl | rfl | rfl | rfl
      · exact .inr ⟨_, rfl, by decide⟩
      · exact fold_sc ho
      · exact .inl ⟨x, rfl⟩
      · exact .inl ⟨n, rfl⟩
  | barrier n h0 h1 =>
    refine req_key [.str [98, 97, 114, 114, 105, 101, 114], .int n] (call_To at11 rfl ?_) (call_To at40 rfl ?_) (by simp) ?_
    · exists Frequest_t0, Frequest_0, startE, codeW, laneW, setAll, Frequest_t1, Frequest_1, he, Frequest_t2, Frequest_2, Frequest_t3, Frequest_3, Frequest_t4, Frequest_4, Frequest_t5, Frequest_5, Frequest_t6, Frequest_6, Frequest_6a_t0, Frequest_6a0, Cop.run, inW, flatW, seqb, eqW, scal2
    · exists Lrequest_t0, Lrequest_0, startE, codeW, laneW, he, Lrequest_t1, Lrequest_1, Lrequest_t2, Lrequest_2, Lrequest_t3, Lrequest_3, Lrequest_t4, Lrequest_4, Lrequest_t5, Lrequest_5, Lrequest_t6, Lrequest_6, Lrequest_6a_t0, Lrequest_6a0, Cop.run, inW, flatW, seqb, eqW, scal2
    · intro q hq
      simp at hq
      rcases hq with rfl | rfl
      · exact .inr ⟨_, rfl, by decide⟩
      · exact .inl ⟨n, rfl⟩
  | exit =>
    refine req_key [.str [101, 120, 105, 116]] (call_To at11 rfl ?_) (call_To at40 rfl ?_) (by simp) ?_
    · exists Frequest_t0, Frequest_0, startE, codeW, laneW, setAll, Frequest_t1, Frequest_1, he, Frequest_t2, Frequest_2, Frequest_t3, Frequest_3, Frequest_t4, Frequest_4, Frequest_t5, Frequest_5, Frequest_t6, Frequest_6, Frequest_6a_t0, Frequest_6a0, Cop.run, inW, flatW, seqb, eqW, scal2
    · exists Lrequest_t0, Lrequest_0, startE, codeW, laneW, he, Lrequest_t1, Lrequest_1, Lrequest_t2, Lrequest_2, Lrequest_t3, Lrequest_3, Lrequest_t4, Lrequest_4, Lrequest_t5, Lrequest_5, Lrequest_t6, Lrequest_6, Lrequest_6a_t0, Lrequest_6a0, Cop.run, inW, flatW, seqb, eqW, scal2
    · intro q hq
      simp at hq
      subst hq
      exact .inr ⟨_, rfl, by decide⟩
  | _ =>
    refine req_key [.str [110, 111, 110, 101]] (call_To at11 rfl ?_) (call_To at40 rfl ?_) (by simp) ?_
    · exists Frequest_t0, Frequest_0, startE, codeW, laneW, setAll, Frequest_t1, Frequest_1, he, Frequest_t2, Frequest_2, Frequest_t3, Frequest_3, Frequest_t4, Frequest_4, Frequest_t5, Frequest_5, Frequest_t6, Frequest_6, Frequest_t7, Frequest_7, Frequest_t8, Frequest_8, Cop.run, inW, flatW, seqb, eqW, scal2
    · exists Lrequest_t0, Lrequest_0, startE, codeW, laneW, he, Lrequest_t1, Lrequest_1, Lrequest_t2, Lrequest_2, Lrequest_t3, Lrequest_3, Lrequest_t4, Lrequest_4, Lrequest_t5, Lrequest_5, Lrequest_t6, Lrequest_6, Lrequest_t7, Lrequest_7, Cop.run, inW, flatW, seqb, eqW, scal2
    · intro q hq
      simp at hq
      subst hq
      exact .inr ⟨_, rfl, by decide⟩
end

end Kx
namespace Kx
open Dl PySem
local macro_rules
  | `(tactic| exists $es,*) => `(tactic| simp [ev, evl, tst, its, src, ex, Tg.putS, Tg.put, $[$es:term],*])
theorem unI_word (op : List Nat) (a : Int) : IsWord (unI op a) := by
  unfold unI
  split
  · exact wrap_word _
  · split
    · exact wrap_word _
    · split <;> decide
section
variable {k : Nat} {z : SS} {r : G} {w m : W} {rows : List W} {at_ loc many gr bl x y v th wd : Int} {ws cs : List Int}
def speI (s : List Nat) (th gr bl : Int) : Int := if s = [116, 105, 100] then th % bl else if s = [98, 105, 100] then th / bl else if s = [100, 105, 109] then bl else gr
abbrev spe4 : List (List Nat) := [[116, 105, 100], [98, 105, 100], [100, 105, 109], [103, 114, 105, 100]]
theorem special_ok {s : List Nat} (hs : s ∈ spe4) (h1 : 1 ≤ bl) (h2 : bl ≤ 8) : callN T (k + 1) 9 [.str s, .int th, laW gr bl x y v m] (hp z r) = .ok (.int (speI s th gr bl)) (hp z r) := by
  have h3 : 0 < bl := by omega
  have h4 : bl.natAbs < 2 ^ 100 := by omega
  have h5 : bl.natAbs.log2 < 9000 := log_of h4
  refine R.To.eq (call_To at9 rfl ?_)
  simp only [spe4, List.mem_cons, List.not_mem_nil, or_false] at hs
  rcases hs with rfl | rfl | rfl | rfl <;> exists Fspecial_0, Fspecial_1a0, Fspecial_1a_t0, Fspecial_1, Fspecial_2a0, Fspecial_2a_t0, Fspecial_2, Fspecial_3a0, Fspecial_3a_t0, Fspecial_3, Fspecial_4, Fspecial_t4, Fspecial_t3, Fspecial_t2, Fspecial_t1, Fspecial_t0, startE, laW, setAll, h3, h5, Bop.run, Bop.runI, R.of, speI
/-- what an instruction writes, both ways -/
def ResOk (k : Nat) (z : SS) (r : G) (w : W) (la : W) (at_ th wd : Int) (ws cs : List Int) (d x : Int) : Prop :=
  Reg d ∧ IsWord x ∧ callN T (k + 5) 13 [w, laneW at_ ws cs, la, .int th, .int wd] (hp z r) = .ok (.tup [.int d, .int x]) (hp z r) ∧ ∀ r', callN T (k + 5) 41 [w, laneW at_ ws cs, la, .int th, .int wd] (hp z r') = .ok (.int x) (hp z r')
def NoRes (k : Nat) (z : SS) (r : G) (w : W) (la : W) (at_ th wd : Int) (ws cs : List Int) : Prop := callN T (k + 5) 13 [w, laneW at_ ws cs, la, .int th, .int wd] (hp z r) = .ok .non (hp z r)
theorem res_key {d x : Int} {la : W} (hd : Reg d) (hx : IsWord x) (h1 : (callN T (k + 5) 13 [w, laneW at_ ws cs, la, .int th, .int wd] (hp z r)).To (fun y g => y = .tup [.int d, .int x] ∧ g = hp z r) noX)
    (h2 : ∀ r', (callN T (k + 5) 41 [w, laneW at_ ws cs, la, .int th, .int wd] (hp z r')).To (fun y g => y = .int x ∧ g = hp z r') noX) : ResOk k z r w la at_ th wd ws cs d x := ⟨hd, hx, R.To.eq h1, fun r' => R.To.eq (h2 r')⟩
theorem res_word {d n : Int} (hd : Reg d) (hn : IsWord n) : ResOk k z r (.tup [.str [119, 111, 114, 100], .int d, .int n]) (laW gr bl x y v m) at_ th wd ws cs d n := by
  refine res_key hd hn (call_To at13 rfl ?_) fun r' => (call_To at41 rfl ?_)
  · exists Fresult_t0, Fresult_0, startE, laneW, Fresult_t1, Fresult_1, Fresult_t2, Fresult_2, Fresult_2a_t0, Fresult_2a0
  · exists Lwritten_t0, Lwritten_0, startE, laneW, Lwritten_t1, Lwritten_1, Lwritten_1a_t0, Lwritten_1a0
theorem res_param {d n : Int} (hd : Reg d) (hn : n = 1 ∨ n = 3 ∨ n = 4) (hy : -1 ≤ y ∧ y < 4) : ∃ u, ResOk k z r (.tup [.str [112, 97, 114, 97, 109], .int d, .int n]) (laW gr bl x y v m) at_ th wd ws cs d u := by
  obtain ⟨u, hu, he⟩ : ∃ u, IsWord u ∧ atW [W.int x, W.int y, W.int v, W.int 7, W.int (-9)] n = some (.int u) := by
    rcases hn with rfl | rfl | rfl
    · exact ⟨y, ⟨by omega, by omega⟩, rfl⟩
    · exact ⟨7, by decide, rfl⟩
    · exact ⟨-9, by decide, rfl⟩
  refine ⟨u, res_key hd hu (call_To at13 rfl ?_) fun r' => (call_To at41 rfl ?_)⟩
  · exists Fresult_t0, Fresult_0, startE, laneW, laW, Fresult_t1, Fresult_1, Fresult_t2, Fresult_2, Fresult_t3, Fresult_3, Fresult_3a_t0, Fresult_3a0, he
  · exists Lwritten_t0, Lwritten_0, startE, laneW, laW, Lwritten_t1, Lwritten_1, Lwritten_t2, Lwritten_2, Lwritten_2a_t0, Lwritten_2a0, he
theorem spe_word {s : List Nat} (b1 : 1 ≤ bl) (b8 : bl ≤ 8) (g1 : 1 ≤ gr) (g4 : gr ≤ 4) (t0 : 0 ≤ th) (t1 : th < 100) : IsWord (speI s th gr bl) := by
  have h1 : 0 ≤ th % bl ∧ th % bl < bl := ⟨Int.emod_nonneg _ (by omega), Int.emod_lt_of_pos _ (by omega)⟩
  have h2 : 0 ≤ th / bl := Int.ediv_nonneg t0 (by omega)
  have h3 : th / bl ≤ th := Int.ediv_le_self _ t0
  unfold IsWord speI
  split
  · omega
  · split
    · omega
    · split <;> omega
theorem res_special {d : Int} {s : List Nat} (hd : Reg d) (hs : s ∈ spe4) (b1 : 1 ≤ bl) (b8 : bl ≤ 8) (g1 : 1 ≤ gr) (g4 : gr ≤ 4) (t0 : 0 ≤ th) (t1 : th < 100) : ResOk k z r (.tup [.str [115, 112, 101, 99, 105, 97, 108], .int d, .str s]) (laW gr bl x y v m) at_ th wd ws cs d (speI s th gr bl) := by
  have h3 : 0 < bl := by omega
  have h4 : bl.natAbs < 2 ^ 100 := by omega
  have q0 : 0 ≤ th / bl := Int.ediv_nonneg t0 (by omega)
  have q1 : th / bl ≤ th := Int.ediv_le_self _ t0
  have s1 : smallI (th / bl) = true := small_of (by omega)
  have s2 : smallI bl = true := small_of (by omega)
  have em : th - th / bl * bl = th % bl := by rw [Int.emod_def, Int.mul_comm]
  refine res_key hd (spe_word b1 b8 g1 g4 t0 t1) (call_To at13 rfl ?_) fun r' => (call_To at41 rfl ?_)
  · have e := special_ok (k := k + 3) (z := z) (r := r) (th := th) (gr := gr) (x := x) (y := y) (v := v) (m := m) hs b1 b8
    exists Fresult_t0, Fresult_0, startE, laneW, Fresult_t1, Fresult_1, Fresult_t2, Fresult_2, Fresult_t3, Fresult_3, Fresult_t4, Fresult_4, Fresult_4a_t0, Fresult_4a0, e
  · have w1 : weq (W.str [116, 105, 100]) (W.str [98, 105, 100]) = false := by decide
    have w2 : weq (W.str [116, 105, 100]) (W.str [100, 105, 109]) = false := by decide
    have w3 : weq (W.str [116, 105, 100]) (W.str [103, 114, 105, 100]) = false := by decide
    have w4 : weq (W.str [98, 105, 100]) (W.str [100, 105, 109]) = false := by decide
    have w5 : weq (W.str [98, 105, 100]) (W.str [103, 114, 105, 100]) = false := by decide
    have w6 : weq (W.str [100, 105, 109]) (W.str [103, 114, 105, 100]) = false := by decide
    simp only [spe4, List.mem_cons, List.not_mem_nil, or_false] at hs
    rcases hs with rfl | rfl | rfl | rfl <;> exists Lwritten_t0, Lwritten_0, startE, laneW, laW, Lwritten_t1, Lwritten_1, Lwritten_t2, Lwritten_2, Lwritten_t3, Lwritten_3, Lwritten_3a_t0, Lwritten_3a0, run_fdiv h3 h4, Lwritten_3a_t1, Lwritten_3a1, run_mul s1 s2, pairW, fits, putD, w1, w2, w3, w4, w5, w6, Lwritten_3a_t2, Lwritten_3a2, getD, weq_refl, R.of, em, speI
theorem res_copy (hl : ws.length = 8) (hw8 : ∀ x ∈ ws, IsWord x) {d n : Int} (hd : Reg d) (hn : Reg n) : ∃ u, ResOk k z r (.tup [.str [99, 111, 112, 121], .int d, .int n]) (laW gr bl x y v m) at_ th wd ws cs d u := by
  obtain ⟨u, e, hu⟩ := reg_at hl hn
  refine ⟨u, res_key hd (hw8 u hu) (call_To at13 rfl ?_) fun r' => (call_To at41 rfl ?_)⟩
  · exists Fresult_t0, Fresult_0, startE, laneW, Fresult_t1, Fresult_1, Fresult_t2, Fresult_2, Fresult_t3, Fresult_3, Fresult_t4, Fresult_4, Fresult_t5, Fresult_5, Fresult_5a_t0, Fresult_5a0, e
  · exists Lwritten_t0, Lwritten_0, startE, laneW, Lwritten_t1, Lwritten_1, Lwritten_t2, Lwritten_2, Lwritten_t3, Lwritten_3, Lwritten_t4, Lwritten_4, Lwritten_4a_t0, Lwritten_4a0, e
theorem res_unary (hl : ws.length = 8) {d n : Int} {op : List Nat} (ho : op ∈ unL) (hd : Reg d) (hn : Reg n) : ∃ u, ResOk k z r (.tup [.str [117, 110, 97, 114, 121], .str op, .int d, .int n]) (laW gr bl x y v m) at_ th wd ws cs d u := by
  obtain ⟨u, e, hu⟩ := reg_at hl hn
  refine ⟨unI op u, res_key hd (unI_word op u) (call_To at13 rfl ?_) fun r' => (call_To at41 rfl ?_)⟩
  · have u1 := c_unary (k := k + 2) (z := z) (r := r) u op ho
    exists Fresult_t0, Fresult_0, startE, laneW, Fresult_t1, Fresult_1, Fresult_t2, Fresult_2, Fresult_t3, Fresult_3, Fresult_t4, Fresult_4, Fresult_t5, Fresult_5, Fresult_t6, Fresult_6, Fresult_6a_t0, Fresult_6a0, e, u1
  · have u2 := c_lun (k := k + 2) (z := z) (r := r') u op ho
    exists Lwritten_t0, Lwritten_0, startE, laneW, Lwritten_t1, Lwritten_1, Lwritten_t2, Lwritten_2, Lwritten_t3, Lwritten_3, Lwritten_t4, Lwritten_4, Lwritten_t5, Lwritten_5, Lwritten_5a_t0, Lwritten_5a0, e, u2
theorem res_binary (hl : ws.length = 8) (hw8 : ∀ x ∈ ws, IsWord x) {d n m' : Int} {op : List Nat} (ho : op ∈ opsL) (hd : Reg d) (hn : Reg n) (hm : Reg m') : ∃ u, ResOk k z r (.tup [.str [98, 105, 110, 97, 114, 121], .str op, .int d, .int n, .int m']) (laW gr bl x y v m) at_ th wd ws cs d u := by
  obtain ⟨a, e, ha⟩ := reg_at hl hn
  obtain ⟨b, e2, hb⟩ := reg_at hl hm
  have u1 := fun g => c_binary k a b g (word_small (hw8 a ha)) (word_small (hw8 b hb)) op ho
  have u2 := fun g => c_lbinary k a b g (word_small (hw8 a ha)) (word_small (hw8 b hb)) op ho
  refine ⟨wrapI (valI op a b), res_key hd (wrap_word _) (call_To at13 rfl ?_) fun r' => (call_To at41 rfl ?_)⟩
  · exists Fresult_t0, Fresult_0, startE, laneW, Fresult_t1, Fresult_1, Fresult_t2, Fresult_2, Fresult_t3, Fresult_3, Fresult_t4, Fresult_4, Fresult_t5, Fresult_5, Fresult_t6, Fresult_6, Fresult_t7, Fresult_7, Fresult_7a_t0, Fresult_7a0, e, e2, u1
  · exists Lwritten_t0, Lwritten_0, startE, laneW, Lwritten_t1, Lwritten_1, Lwritten_t2, Lwritten_2, Lwritten_t3, Lwritten_3, Lwritten_t4, Lwritten_4, Lwritten_t5, Lwritten_5, Lwritten_t6, Lwritten_6, Lwritten_6a_t0, Lwritten_6a0, e, e2, u2
theorem res_get (hcl : (cs.length : Int) = loc) (hc8 : ∀ x ∈ cs, IsWord x) {d n : Int} (hd : Reg d) (n0 : 0 ≤ n) (n1 : n < loc) : ∃ u, ResOk k z r (.tup [.str [103, 101, 116], .int d, .int n]) (laW gr bl x y v m) at_ th wd ws cs d u := by
  obtain ⟨q, e, hq⟩ := atW_mem (xs := cs.map W.int) (v := n) n0 (by rw [List.length_map, hcl]; exact n1)
  obtain ⟨u, hu, rfl⟩ := List.mem_map.mp hq
  refine ⟨u, res_key hd (hc8 u hu) (call_To at13 rfl ?_) fun r' => (call_To at41 rfl ?_)⟩
  · exists Fresult_t0, Fresult_0, startE, laneW, Fresult_t1, Fresult_1, Fresult_t2, Fresult_2, Fresult_t3, Fresult_3, Fresult_t4, Fresult_4, Fresult_t5, Fresult_5, Fresult_t6, Fresult_6, Fresult_t7, Fresult_7, Fresult_t8, Fresult_8, Fresult_8a_t0, Fresult_8a0, e
  · exists Lwritten_t0, Lwritten_0, startE, laneW, Lwritten_t1, Lwritten_1, Lwritten_t2, Lwritten_2, Lwritten_t3, Lwritten_3, Lwritten_t4, Lwritten_4, Lwritten_t5, Lwritten_5, Lwritten_t6, Lwritten_6, Lwritten_t7, Lwritten_7, Lwritten_7a_t0, Lwritten_7a0, e
theorem res_load (hwd : IsWord wd) {d a n : Int} (hd : Reg d) : ResOk k z r (.tup [.str [108, 111, 97, 100], .int d, .int a, .int n]) (laW gr bl x y v m) at_ th wd ws cs d wd := by
  refine res_key hd hwd (call_To at13 rfl ?_) fun r' => (call_To at41 rfl ?_)
  · exists Fresult_t0, Fresult_0, startE, laneW, Fresult_t1, Fresult_1, Fresult_t2, Fresult_2, Fresult_t3, Fresult_3, Fresult_t4, Fresult_4, Fresult_t5, Fresult_5, Fresult_t6, Fresult_6, Fresult_t7, Fresult_7, Fresult_t8, Fresult_8, Fresult_t9, Fresult_9, Fresult_9a_t0, Fresult_9a0
  · exists Lwritten_t0, Lwritten_0, startE, laneW, Lwritten_t1, Lwritten_1, Lwritten_t2, Lwritten_2, Lwritten_t3, Lwritten_3, Lwritten_t4, Lwritten_4, Lwritten_t5, Lwritten_5, Lwritten_t6, Lwritten_6, Lwritten_t7, Lwritten_7, Lwritten_t8, Lwritten_8
theorem res_collect (hwd : IsWord wd) {op : List Nat} {d n m' : Int} (hd : Reg d) : ResOk k z r (.tup [.str [99, 111, 108, 108, 101, 99, 116], .str op, .int d, .int n, .int m']) (laW gr bl x y v m) at_ th wd ws cs d wd := by
  refine res_key hd hwd (call_To at13 rfl ?_) fun r' => (call_To at41 rfl ?_)
  · exists Fresult_t0, Fresult_0, startE, laneW, Fresult_t1, Fresult_1, Fresult_t2, Fresult_2, Fresult_t3, Fresult_3, Fresult_t4, Fresult_4, Fresult_t5, Fresult_5, Fresult_t6, Fresult_6, Fresult_t7, Fresult_7, Fresult_t8, Fresult_8, Fresult_t9, Fresult_9, Fresult_t10, Fresult_10, Fresult_10a_t0, Fresult_10a0
  · exists Lwritten_t0, Lwritten_0, startE, laneW, Lwritten_t1, Lwritten_1, Lwritten_t2, Lwritten_2, Lwritten_t3, Lwritten_3, Lwritten_t4, Lwritten_4, Lwritten_t5, Lwritten_5, Lwritten_t6, Lwritten_6, Lwritten_t7, Lwritten_7, Lwritten_t8, Lwritten_8
theorem no_res {s : List Nat} {rest : List W} (hs : s ∈ [[115, 116, 111, 114, 101], [97, 116, 111, 109, 105, 99], [98, 97, 114, 114, 105, 101, 114], [106, 117, 109, 112], [98, 114, 97, 110, 99, 104]]) : NoRes k z r (.tup (.str s :: rest)) (laW gr bl x y v m) at_ th wd ws cs := by
  refine R.To.eq (call_To at13 rfl ?_)
  simp only [List.mem_cons, List.not_mem_nil, or_false] at hs
  rcases hs with rfl | rfl | rfl | rfl | rfl <;> exists Fresult_t0, Fresult_0, startE, laneW, Fresult_t1, Fresult_1, Fresult_t2, Fresult_2, Fresult_t3, Fresult_3, Fresult_t4, Fresult_4, Fresult_t5, Fresult_5, Fresult_t6, Fresult_6, Fresult_t7, Fresult_7, Fresult_t8, Fresult_8, Fresult_t9, Fresult_9, Fresult_t10, Fresult_10, Fresult_t11, Fresult_11
end

end Kx
namespace Kx
open Dl PySem
local macro_rules
  | `(tactic| exists $es,*) => `(tactic| simp [ev, evl, tst, its, src, ex, Tg.putS, Tg.put, $[$es:term],*])
theorem putI_set {xs : List Int} {d v : Int} (h0 : 0 ≤ d) (h1 : d < xs.length) : cutW (xs.map W.int) none (some d) ++ W.int v :: cutW (xs.map W.int) (some (d + 1)) none = (xs.set d.toNat v).map W.int := by
  obtain ⟨n, rfl⟩ := Int.eq_ofNat_of_zero_le h0
  have hn : n < xs.length := by omega
  have e1 : cutW (xs.map W.int) none (some (n : Int)) = (xs.take n).map W.int := by
    simp only [cutW, cutIx, List.length_map]
    rw [if_neg (by omega)]
    simp [Nat.min_eq_left (Nat.le_of_lt hn)]
  have e2 : cutW (xs.map W.int) (some ((n : Int) + 1)) none = (xs.drop (n + 1)).map W.int := by
    simp only [cutW, cutIx, List.length_map]
    rw [if_neg (by omega)]
    have : min ((n : Int) + 1).toNat xs.length = n + 1 := by omega
    rw [this, ← List.map_drop, List.take_of_length_le (by simp)]
  rw [e1, e2]
  simp [List.set_eq_take_append_cons_drop, hn]
theorem cut_len {ws : List W} {lo hi : Option Int} : (cutW ws lo hi).length ≤ ws.length := by
  unfold cutW
  simp
  omega
theorem ixW_nn {n : Nat} {i : Int} (h0 : 0 ≤ i) (h1 : i < n) : ixW n i = some i.toNat := by
  simp only [ixW]
  rw [if_pos h0, if_pos h1]
section
variable {k : Nat} {z : SS} {r : G} {w la : W} {rows : List W} {at_ loc many th wd : Int} {ws cs : List Int} {Q : W → G → Prop} {X : Nat → G → Prop}
theorem changed_ok {xs : List Int} {d v : Int} (h0 : 0 ≤ d) (h1 : d < xs.length) (h : xs.length ≤ 100) : callN T (k + 1) 12 [.tup (xs.map W.int), .int d, .int v] (hp z r) = .ok (.tup ((xs.set d.toNat v).map W.int)) (hp z r) := by
  have l1 := cut_len (ws := xs.map W.int) (lo := none) (hi := some d)
  have l2 := cut_len (ws := xs.map W.int) (lo := some (d + 1)) (hi := none)
  rw [List.length_map] at l1 l2
  have k1 := run_catT (g := hp z r) (x := cutW (xs.map W.int) none (some d)) (y := [.int v]) (lim_le (by simp; omega))
  have k2 := run_catT (g := hp z r) (x := cutW (xs.map W.int) none (some d) ++ [.int v]) (y := cutW (xs.map W.int) (some (d + 1)) none) (lim_le (by simp; omega))
  rw [List.append_assoc, List.singleton_append, putI_set h0 h1] at k2
  refine R.To.eq (call_To at12 rfl ?_)
  exists Fchanged_t0, Fchanged_0, startE, k1, k2
theorem lbeh_pre (he : atW rows at_ = some w) (H : ∀ ra p q, Ext r ra → At ra p (.lst (ws.map W.int)) → At ra q (.lst (cs.map W.int)) → p ≠ q → r.length + 2 ≤ p → r.length + 2 ≤ q → (exs T (callN T (k + 5)) Lbehind_t4 [some (codeW loc rows), some la, some (.int th), some (laneW at_ ws cs), some (.int wd), some w, some (.ref p), some (.ref q), some (.int (at_ + 1))] (hp z ra)).To (fin (hp z r) Q) (fun c _ g' => X c (gc (hp z r) .non g'))) :
    (callN T (k + 6) 42 [codeW loc rows, la, .int th, laneW at_ ws cs, .int wd] (hp z r)).To Q X := by
  refine call_To at42 rfl ?_
  exists Lbehind_t0, Lbehind_0, startE, codeW, laneW, he, Lbehind_t1, Lbehind_1, seqOf, Lbehind_t2, Lbehind_2, Lbehind_t3, Lbehind_3
  have := H (r ++ [.lst (ws.map W.int), .lst (cs.map W.int)]) (r.length + 2) (r.length + 3) .app ⟨by omega, by simp⟩ ⟨by omega, by simp [show r.length + 3 - 2 = r.length + 1 by omega]⟩ (by omega) (by omega) (by omega)
  simp only [codeW, laneW] at this
  exact this
theorem lbeh_end {ra : G} {p q : Nat} {ws' cs' : List Int} {f : Int} {vc vl vw : W} (e : Ext r ra) (ap : At ra p (.lst (ws'.map W.int))) (aq : At ra q (.lst (cs'.map W.int))) (hQ : Q (laneW f ws' cs') (hp z r)) :
    (exs T (callN T (k + 5)) Lbehind_t6 [some vc, some la, some (.int th), some vl, some (.int wd), some vw, some (.ref p), some (.ref q), some (.int f)] (hp z ra)).To (fin (hp z r) Q) (fun c _ g' => X c (gc (hp z r) .non g')) := by
  have h1 := ap.get (z := z)
  have h2 := aq.get (z := z)
  have eg : gc (hp z r) (laneW f ws' cs') (hp z ra) = hp z r := gc_ext e (by simp [laneW, belows_ints])
  unfold laneW at eg hQ
  exists Lbehind_t6, Lbehind_6, seqOf, h1, h2, R.of
  rw [eg]
  exact hQ
/-- both ways behind -/
def BehOk (k : Nat) (z : SS) (r : G) (rows : List W) (la : W) (at_ loc many th wd : Int) (ws cs : List Int) : Prop :=
  ∃ (f : Int) (ws' cs' : List Int), 0 ≤ f ∧ f < many ∧ ws'.length = 8 ∧ (∀ x ∈ ws', IsWord x) ∧ (cs'.length : Int) = loc ∧ (∀ x ∈ cs', IsWord x) ∧
    callN T (k + 6) 14 [codeW loc rows, la, .int th, laneW at_ ws cs, .int wd] (hp z r) = .ok (laneW f ws' cs') (hp z r) ∧
    callN T (k + 6) 42 [codeW loc rows, la, .int th, laneW at_ ws cs, .int wd] (hp z r) = .ok (laneW f ws' cs') (hp z r)
theorem set_word {xs : List Int} {n : Nat} {v : Int} (h : ∀ x ∈ xs, IsWord x) (hv : IsWord v) : ∀ x ∈ xs.set n v, IsWord x := by
  intro x hx
  rcases List.mem_or_eq_of_mem_set hx with h1 | h1
  · exact h x h1
  · rw [h1]; exact hv
variable (hl : ws.length = 8) (hw8 : ∀ x ∈ ws, IsWord x) (hcl : (cs.length : Int) = loc) (hc8 : ∀ x ∈ cs, IsWord x) (a0 : 0 ≤ at_) (a1 : at_ < many) (hlo : loc ≤ 6)
include hl hw8 hcl hc8 a0 a1 hlo
theorem beh_exit (he : atW rows at_ = some (.tup [.str [101, 120, 105, 116]])) : BehOk k z r rows la at_ loc many th wd ws cs := by
  refine ⟨at_, ws, cs, a0, a1, hl, hw8, hcl, hc8, R.To.eq (call_To at14 rfl ?_), R.To.eq (lbeh_pre he fun ra p q e ap aq hpq hp' hq' => ?_)⟩
  · exists Fbehind_t0, Fbehind_0, startE, codeW, laneW, setAll, Fbehind_t1, Fbehind_1, he, Fbehind_t2, Fbehind_2, Fbehind_t3, Fbehind_3, Fbehind_3a_t0, Fbehind_3a0
  · have eg : gc (hp z r) (laneW at_ ws cs) (hp z ra) = hp z r := gc_ext e (by simp [laneW, belows_ints])
    exists Lbehind_t4, Lbehind_4, Lbehind_4a_t0, Lbehind_4a0, eg
theorem beh_jump {n : Int} (he : atW rows at_ = some (.tup [.str [106, 117, 109, 112], .int n])) (n0 : 0 ≤ n) (n1 : n < many) (hr : NoRes k z r (.tup [.str [106, 117, 109, 112], .int n]) la at_ th wd ws cs) : BehOk k z r rows la at_ loc many th wd ws cs := by
  unfold NoRes laneW at hr
  refine ⟨n, ws, cs, n0, n1, hl, hw8, hcl, hc8, R.To.eq (call_To at14 rfl ?_), R.To.eq (lbeh_pre he fun ra p q e ap aq hpq hp' hq' => ?_)⟩
  · exists Fbehind_t0, Fbehind_0, startE, codeW, laneW, setAll, Fbehind_t1, Fbehind_1, he, Fbehind_t2, Fbehind_2, Fbehind_t3, Fbehind_3, Fbehind_t4, Fbehind_4, Fbehind_t5, Fbehind_5, Fbehind_5a_t0, Fbehind_5a0, Fbehind_t6, Fbehind_6, Fbehind_t7, Fbehind_7, hr, Fbehind_t8, Fbehind_8, Fbehind_t9, Fbehind_9
  · exists Lbehind_t4, Lbehind_4, Lbehind_t5, Lbehind_5, Lbehind_5a_t0, Lbehind_5a0
    exact lbeh_end e ap aq ⟨rfl, rfl⟩
theorem beh_branch {n m j : Int} (he : atW rows at_ = some (.tup [.str [98, 114, 97, 110, 99, 104], .int n, .int m, .int j])) (hn : Reg n) (n0 : 0 ≤ m) (n1 : m < many) (hnx : at_ + 1 < many) (hr : NoRes k z r (.tup [.str [98, 114, 97, 110, 99, 104], .int n, .int m, .int j]) la at_ th wd ws cs) : BehOk k z r rows la at_ loc many th wd ws cs := by
  obtain ⟨x, ex1, hx⟩ := reg_at hl hn
  unfold NoRes laneW at hr
  by_cases hx0 : x = 0
  · refine ⟨at_ + 1, ws, cs, by omega, hnx, hl, hw8, hcl, hc8, R.To.eq (call_To at14 rfl ?_), R.To.eq (lbeh_pre he fun ra p q e ap aq hpq hp' hq' => ?_)⟩
    · exists Fbehind_t0, Fbehind_0, startE, codeW, laneW, setAll, Fbehind_t1, Fbehind_1, he, Fbehind_t2, Fbehind_2, Fbehind_t3, Fbehind_3, Fbehind_t4, Fbehind_4, Fbehind_t5, Fbehind_5, Fbehind_5b_t0, Fbehind_5b0, ex1, hx0, Fbehind_t6, Fbehind_6, Fbehind_t7, Fbehind_7, hr, Fbehind_t8, Fbehind_8, Fbehind_t9, Fbehind_9
    · have gw := ap.get (z := z)
      exists Lbehind_t4, Lbehind_4, Lbehind_t5, Lbehind_5, Lbehind_5b_t0, Lbehind_5b0, Lbehind_5b0a_t0, Lbehind_5b0a0, gw, ex1, hx0
      exact lbeh_end e ap aq ⟨rfl, rfl⟩
  · refine ⟨m, ws, cs, n0, n1, hl, hw8, hcl, hc8, R.To.eq (call_To at14 rfl ?_), R.To.eq (lbeh_pre he fun ra p q e ap aq hpq hp' hq' => ?_)⟩
    · exists Fbehind_t0, Fbehind_0, startE, codeW, laneW, setAll, Fbehind_t1, Fbehind_1, he, Fbehind_t2, Fbehind_2, Fbehind_t3, Fbehind_3, Fbehind_t4, Fbehind_4, Fbehind_t5, Fbehind_5, Fbehind_5b_t0, Fbehind_5b0, ex1, hx0, Fbehind_5b0a_t0, Fbehind_5b0a0, Fbehind_t6, Fbehind_6, Fbehind_t7, Fbehind_7, hr, Fbehind_t8, Fbehind_8, Fbehind_t9, Fbehind_9
    · have gw := ap.get (z := z)
      exists Lbehind_t4, Lbehind_4, Lbehind_t5, Lbehind_5, Lbehind_5b_t0, Lbehind_5b0, Lbehind_5b0a_t0, Lbehind_5b0a0, gw, ex1, hx0, Lbehind_5b0a0a_t0, Lbehind_5b0a0a0
      exact lbeh_end e ap aq ⟨rfl, rfl⟩
theorem beh_keep {n m : Int} (he : atW rows at_ = some (.tup [.str [107, 101, 101, 112], .int n, .int m])) (n0 : 0 ≤ n) (n1 : n < loc) (hm : Reg m) (hnx : at_ + 1 < many) : BehOk k z r rows la at_ loc many th wd ws cs := by
  obtain ⟨x, ex1, hx⟩ := reg_at hl hm
  have ch := changed_ok (k := k + 4) (z := z) (r := r) (xs := cs) (d := n) (v := x) n0 (by omega) (by omega)
  refine ⟨at_ + 1, ws, cs.set n.toNat x, by omega, hnx, hl, hw8, by simpa using hcl, set_word hc8 (hw8 x hx), R.To.eq (call_To at14 rfl ?_), R.To.eq (lbeh_pre he fun ra p q e ap aq hpq hp' hq' => ?_)⟩
  · exists Fbehind_t0, Fbehind_0, startE, codeW, laneW, setAll, Fbehind_t1, Fbehind_1, he, Fbehind_t2, Fbehind_2, Fbehind_t3, Fbehind_3, Fbehind_t4, Fbehind_4, Fbehind_t5, Fbehind_5, Fbehind_5b_t0, Fbehind_5b0, Fbehind_t6, Fbehind_6, Fbehind_6a_t0, Fbehind_6a0, ex1, ch
  · have gw := ap.get (z := z)
    have gc_ := aq.get (z := z)
    have hix := ixW_nn (n := cs.length) n0 (by omega)
    have hput := aq.put (z := z) (o' := .lst ((cs.map W.int).set n.toNat (.int x)))
    exists Lbehind_t4, Lbehind_4, Lbehind_t5, Lbehind_5, Lbehind_5b_t0, Lbehind_5b0, Lbehind_5b0b_t0, Lbehind_5b0b0, Lbehind_5b0b0a_t0, Lbehind_5b0b0a0, gw, ex1, gc_, hix, hput
    have e2 := e.set (i := q - 2) (o := .lst ((cs.map W.int).set n.toNat (.int x))) (by omega)
    have ap2 := ap.set_ne (q := q) (o' := .lst ((cs.map W.int).set n.toNat (.int x))) hpq.symm (by omega)
    have aq2 := aq.set_self (o' := .lst ((cs.map W.int).set n.toNat (.int x)))
    rw [← List.map_set] at e2 ap2 aq2
    try rw [← List.map_set]
    exact lbeh_end e2 ap2 aq2 ⟨rfl, rfl⟩
theorem beh_no {s : List Nat} {rest : List W} (hs : s ∈ [[115, 116, 111, 114, 101], [97, 116, 111, 109, 105, 99], [98, 97, 114, 114, 105, 101, 114]]) (he : atW rows at_ = some (.tup (.str s :: rest))) (hnx : at_ + 1 < many) (hr : NoRes k z r (.tup (.str s :: rest)) la at_ th wd ws cs) : BehOk k z r rows la at_ loc many th wd ws cs := by
  unfold NoRes laneW at hr
  have h1 : ∀ g, Cop.run .in_ (.str s) (.tup [.str [117, 110, 97, 114, 121], .str [98, 105, 110, 97, 114, 121], .str [99, 111, 108, 108, 101, 99, 116]]) g = some false := by
    intro g
    simp only [List.mem_cons, List.not_mem_nil, or_false] at hs
    rcases hs with rfl | rfl | rfl <;> rfl
  have h2 : ∀ g, Cop.run .notin (.str s) (.tup [.str [115, 116, 111, 114, 101], .str [97, 116, 111, 109, 105, 99], .str [98, 97, 114, 114, 105, 101, 114]]) g = some false := by
    intro g
    simp only [List.mem_cons, List.not_mem_nil, or_false] at hs
    rcases hs with rfl | rfl | rfl <;> rfl
  have n1 : ¬ s = [101, 120, 105, 116] := by rintro rfl; revert hs; decide
  have n2 : ¬ s = [106, 117, 109, 112] := by rintro rfl; revert hs; decide
  have n3 : ¬ s = [98, 114, 97, 110, 99, 104] := by rintro rfl; revert hs; decide
  have n4 : ¬ s = [107, 101, 101, 112] := by rintro rfl; revert hs; decide
  refine ⟨at_ + 1, ws, cs, by omega, hnx, hl, hw8, hcl, hc8, R.To.eq (call_To at14 rfl ?_), R.To.eq (lbeh_pre he fun ra p q e ap aq hpq hp' hq' => ?_)⟩
  · exists Fbehind_t0, Fbehind_0, startE, codeW, laneW, setAll, Fbehind_t1, Fbehind_1, he, Fbehind_t2, Fbehind_2, Fbehind_t3, Fbehind_3, n1, Fbehind_t4, Fbehind_4, Fbehind_t5, Fbehind_5, n2, Fbehind_5b_t0, Fbehind_5b0, n3, Fbehind_t6, Fbehind_6, n4, Fbehind_t7, Fbehind_7, hr, Fbehind_t8, Fbehind_8, Fbehind_t9, Fbehind_9
  · exists Lbehind_t4, Lbehind_4, n1, Lbehind_t5, Lbehind_5, n2, Lbehind_5b_t0, Lbehind_5b0, n3, Lbehind_5b0b_t0, Lbehind_5b0b0, n4, Lbehind_5b0b0b_t0, Lbehind_5b0b0b0, h1, Lbehind_5b0b0b0b_t0, Lbehind_5b0b0b0b0, h2
    exact lbeh_end e ap aq ⟨rfl, rfl⟩
/-- a register is written: its place in the row is 1, or 2 -/
theorem beh_set {s : List Nat} {rest : List W} {d x : Int} (hs : (s ∈ [[119, 111, 114, 100], [112, 97, 114, 97, 109], [115, 112, 101, 99, 105, 97, 108], [99, 111, 112, 121], [103, 101, 116], [108, 111, 97, 100]] ∧ rest[0]? = some (.int d)) ∨ (s ∈ [[117, 110, 97, 114, 121], [98, 105, 110, 97, 114, 121], [99, 111, 108, 108, 101, 99, 116]] ∧ rest[1]? = some (.int d))) (he : atW rows at_ = some (.tup (.str s :: rest))) (hnx : at_ + 1 < many) (hr : ResOk k z r (.tup (.str s :: rest)) la at_ th wd ws cs d x) : BehOk k z r rows la at_ loc many th wd ws cs := by
  obtain ⟨hd, hx, r1, r2⟩ := hr
  obtain ⟨d0, d1⟩ := hd
  unfold laneW at r1 r2
  have n1 : ¬ s = [101, 120, 105, 116] := by rintro rfl; revert hs; simp
  have n2 : ¬ s = [106, 117, 109, 112] := by rintro rfl; revert hs; simp
  have n3 : ¬ s = [98, 114, 97, 110, 99, 104] := by rintro rfl; revert hs; simp
  have n4 : ¬ s = [107, 101, 101, 112] := by rintro rfl; revert hs; simp
  have ch := changed_ok (k := k + 4) (z := z) (r := r) (xs := ws) (d := d) (v := x) d0 (by omega) (by omega)
  refine ⟨at_ + 1, ws.set d.toNat x, cs, by omega, hnx, by simpa using hl, set_word hw8 hx, hcl, hc8, R.To.eq (call_To at14 rfl ?_), R.To.eq (lbeh_pre he fun ra p q e ap aq hpq hp' hq' => ?_)⟩
  · exists Fbehind_t0, Fbehind_0, startE, codeW, laneW, setAll, Fbehind_t1, Fbehind_1, he, Fbehind_t2, Fbehind_2, Fbehind_t3, Fbehind_3, n1, Fbehind_t4, Fbehind_4, Fbehind_t5, Fbehind_5, n2, Fbehind_5b_t0, Fbehind_5b0, n3, Fbehind_t6, Fbehind_6, n4, Fbehind_t7, Fbehind_7, r1, Fbehind_t8, Fbehind_8, Fbehind_8a_t0, Fbehind_8a0, ch, Fbehind_t9, Fbehind_9
  · have gw := ap.get (z := z)
    have hix := ixW_nn (n := ws.length) d0 (by omega)
    have hput := ap.put (z := z) (o' := .lst ((ws.map W.int).set d.toNat (.int x)))
    have e2 := e.set (i := p - 2) (o := .lst ((ws.map W.int).set d.toNat (.int x))) (by omega)
    have aq2 := aq.set_ne (q := p) (o' := .lst ((ws.map W.int).set d.toNat (.int x))) hpq (by omega)
    have ap2 := ap.set_self (o' := .lst ((ws.map W.int).set d.toNat (.int x)))
    rw [← List.map_set] at e2 ap2 aq2
    rcases hs with ⟨hs, hd⟩ | ⟨hs, hd⟩
    · have h1 : ∀ g, Cop.run .in_ (.str s) (.tup [.str [117, 110, 97, 114, 121], .str [98, 105, 110, 97, 114, 121], .str [99, 111, 108, 108, 101, 99, 116]]) g = some false := by
        intro g
        simp only [List.mem_cons, List.not_mem_nil, or_false] at hs
        rcases hs with rfl | rfl | rfl | rfl | rfl | rfl <;> rfl
      have h2 : ∀ g, Cop.run .notin (.str s) (.tup [.str [115, 116, 111, 114, 101], .str [97, 116, 111, 109, 105, 99], .str [98, 97, 114, 114, 105, 101, 114]]) g = some true := by
        intro g
        simp only [List.mem_cons, List.not_mem_nil, or_false] at hs
        rcases hs with rfl | rfl | rfl | rfl | rfl | rfl <;> rfl
      unfold laneW
      exists Lbehind_t4, Lbehind_4, n1, Lbehind_t5, Lbehind_5, n2, Lbehind_5b_t0, Lbehind_5b0, n3, Lbehind_5b0b_t0, Lbehind_5b0b0, n4, Lbehind_5b0b0b_t0, Lbehind_5b0b0b0, h1, Lbehind_5b0b0b0b_t0, Lbehind_5b0b0b0b0, h2, Lbehind_5b0b0b0b0a_t0, Lbehind_5b0b0b0b0a0, r2, gw, hd, hix, hput
      try rw [← List.map_set]
      exact lbeh_end e2 ap2 aq2 ⟨rfl, rfl⟩
    · have h1 : ∀ g, Cop.run .in_ (.str s) (.tup [.str [117, 110, 97, 114, 121], .str [98, 105, 110, 97, 114, 121], .str [99, 111, 108, 108, 101, 99, 116]]) g = some true := by
        intro g
        simp only [List.mem_cons, List.not_mem_nil, or_false] at hs
        rcases hs with rfl | rfl | rfl <;> rfl
      unfold laneW
      exists Lbehind_t4, Lbehind_4, n1, Lbehind_t5, Lbehind_5, n2, Lbehind_5b_t0, Lbehind_5b0, n3, Lbehind_5b0b_t0, Lbehind_5b0b0, n4, Lbehind_5b0b0b_t0, Lbehind_5b0b0b0, h1, Lbehind_5b0b0b0a_t0, Lbehind_5b0b0b0a0, r2, gw, hd, hix, hput
      try rw [← List.map_set]
      exact lbeh_end e2 ap2 aq2 ⟨rfl, rfl⟩
end

end Kx
namespace Kx
open Dl PySem
local macro_rules
  | `(tactic| exists $es,*) => `(tactic| simp [ev, evl, tst, its, src, ex, Tg.putS, Tg.put, $[$es:term],*])
def Dq (n : Nat) (w : W) : Prop := ∀ g, dataOk g n w = true ∧ eqb g n w w = true
theorem eqbs_self {f : W → W → Bool} : ∀ {l : List W}, (∀ x ∈ l, f x x = true) → eqbs f l l = true
  | [], _ => rfl
  | x :: r, h => by
    have := eqbs_self (l := r) fun y hy => h y (List.mem_cons_of_mem _ hy)
    simp [eqbs, h x (by simp), this]
theorem Dq.sc {n : Nat} {x : W} (h : Sc x) : Dq (n + 1) x := by
  intro g
  rcases h with ⟨i, rfl⟩ | ⟨s, rfl, hs⟩
  · exact ⟨rfl, by simp [eqb, lstOf, seqb]⟩
  · exact ⟨hs, by simp [eqb, lstOf, seqb]⟩
theorem Dq.tup {n : Nat} {l : List W} (h : ∀ x ∈ l, Dq n x) : Dq (n + 1) (.tup l) := by
  intro g
  refine ⟨?_, ?_⟩
  · simp only [dataOk, List.all_eq_true]
    exact fun x hx => (h x hx g).1
  · simp only [eqb]
    exact eqbs_self fun x hx => (h x hx g).2
theorem Dq.ne {l : List W} {g : G} (h : Dq 60 (.tup l)) : Cop.run .ne (.tup l) (.tup l) g = some false := by
  obtain ⟨h1, h3⟩ := h g
  simp [Cop.run, eqW, scal2, h1, h3]
theorem ints_dq {n : Nat} (l : List Int) : Dq (n + 2) (.tup (l.map W.int)) := Dq.tup fun x hx => by
  obtain ⟨i, _, rfl⟩ := List.mem_map.mp hx
  exact Dq.sc (.inl ⟨i, rfl⟩)
theorem lane_ne {f : Int} {ws cs : List Int} {g : G} : Cop.run .ne (laneW f ws cs) (laneW f ws cs) g = some false := by
  refine Dq.ne (Dq.tup fun x hx => ?_)
  simp only [List.mem_cons, List.not_mem_nil, or_false] at hx
  rcases hx with rfl | rfl | rfl
  · exact Dq.sc (.inl ⟨f, rfl⟩)
  · exact ints_dq ws
  · exact ints_dq cs
section
variable {k : Nat} {z : SS} {r : G} {m : W} {rows : List W} {at_ loc many gr bl x y v th wd : Int} {ws cs : List Int}
theorem first_ok (h0 : 0 ≤ loc) (h6 : loc ≤ 6) : callN T (k + 1) 10 [codeW loc rows] (hp z r) = .ok (laneW 0 (List.replicate 8 0) (List.replicate loc.toNat 0)) (hp z r) ∧ callN T (k + 1) 39 [codeW loc rows] (hp z r) = .ok (laneW 0 (List.replicate 8 0) (List.replicate loc.toNat 0)) (hp z r) := by
  have r1 := run_repT (x := [W.int 0]) (k := 8) (g := hp z r) (by decide) (by decide) (by simp)
  have r2 := run_repT (x := [W.int 0]) (k := loc) (g := hp z r) (by omega) (by omega) (by simp)
  refine ⟨R.To.eq (call_To at10 rfl ?_), R.To.eq (call_To at39 rfl ?_)⟩
  · exists Ffirst_lane_0, Ffirst_lane_t0, startE, codeW, r1, r2, laneW
  · exists Lfirst_0, Lfirst_t0, startE, codeW, r1, r2, laneW
theorem beh_all (hC : Code61 many loc rows) (hL : La61 gr bl x y v m) (hl : ws.length = 8) (hw8 : ∀ x ∈ ws, IsWord x) (hcl : (cs.length : Int) = loc) (hc8 : ∀ x ∈ cs, IsWord x) (a0 : 0 ≤ at_) (a1 : at_ < many) (t0 : 0 ≤ th) (t1 : th < 100) (hwd : IsWord wd) {w : W} (he : atW rows at_ = some w) (hw : Ins (cf61 many loc) w) : BehOk k z r rows (laW gr bl x y v m) at_ loc many th wd ws cs := by
  have hlo := hC.l6
  have nx : (¬ w = .tup [.str [101, 120, 105, 116]]) → (∀ n, ¬ w = .tup [.str [106, 117, 109, 112], .int n]) → at_ + 1 < many := by
    intro h1 h2
    obtain ⟨init, u, ei, hu⟩ := hC.last
    have hlen := hC.len
    by_cases h : at_ + 1 < many
    · exact h
    · exfalso
      have hat : at_.toNat = init.length := by
        rw [ei] at hlen
        simp at hlen
        omega
      obtain ⟨n, rfl⟩ := Int.eq_ofNat_of_zero_le a0
      rw [atW_nat, ei] at he
      have hn : n = init.length := hat
      rw [hn] at he
      simp at he
      subst he
      rcases hu with hu | ⟨n, _, _, hu⟩
      · exact h1 hu
      · exact h2 n hu
  cases hw with
  | word d n hd hn => exact beh_set hl hw8 hcl hc8 a0 a1 hlo (.inl ⟨by simp, rfl⟩) he (nx (by simp) (by simp)) (res_word hd hn)
  | param d n hd hn =>
    obtain ⟨u, hu⟩ := res_param (k := k) (z := z) (r := r) (gr := gr) (bl := bl) (x := x) (v := v) (m := m) (at_ := at_) (th := th) (wd := wd) (ws := ws) (cs := cs) hd hn ⟨hL.y0, hL.y4⟩
    exact beh_set hl hw8 hcl hc8 a0 a1 hlo (.inl ⟨by simp, rfl⟩) he (nx (by simp) (by simp)) hu
  | special d s hd hs => exact beh_set hl hw8 hcl hc8 a0 a1 hlo (.inl ⟨by simp, rfl⟩) he (nx (by simp) (by simp)) (res_special hd hs hL.b1 hL.b8 hL.g1 hL.g4 t0 t1)
  | copy d n hd hn =>
    obtain ⟨u, hu⟩ := res_copy (k := k) (z := z) (r := r) (gr := gr) (bl := bl) (x := x) (y := y) (v := v) (m := m) (at_ := at_) (th := th) (wd := wd) (cs := cs) hl hw8 hd hn
    exact beh_set hl hw8 hcl hc8 a0 a1 hlo (.inl ⟨by simp, rfl⟩) he (nx (by simp) (by simp)) hu
  | unary op d n ho hd hn =>
    obtain ⟨u, hu⟩ := res_unary (k := k) (z := z) (r := r) (gr := gr) (bl := bl) (x := x) (y := y) (v := v) (m := m) (at_ := at_) (th := th) (wd := wd) (cs := cs) hl ho hd hn
    exact beh_set hl hw8 hcl hc8 a0 a1 hlo (.inr ⟨by simp, rfl⟩) he (nx (by simp) (by simp)) hu
  | binary op d n q ho hd hn hm =>
    obtain ⟨u, hu⟩ := res_binary (k := k) (z := z) (r := r) (gr := gr) (bl := bl) (x := x) (y := y) (v := v) (m := m) (at_ := at_) (th := th) (wd := wd) (cs := cs) hl hw8 ho hd hn hm
    exact beh_set hl hw8 hcl hc8 a0 a1 hlo (.inr ⟨by simp, rfl⟩) he (nx (by simp) (by simp)) hu
  | load d a n hd ha hn => exact beh_set hl hw8 hcl hc8 a0 a1 hlo (.inl ⟨by simp, rfl⟩) he (nx (by simp) (by simp)) (res_load hwd hd)
  | store a n q ha hn hm => exact beh_no hl hw8 hcl hc8 a0 a1 hlo (by simp) he (nx (by simp) (by simp)) (no_res (by simp))
  | atomic op a n q ho ha hn hm => exact beh_no hl hw8 hcl hc8 a0 a1 hlo (by simp) he (nx (by simp) (by simp)) (no_res (by simp))
  | barrier n h0 h1 => exact beh_no hl hw8 hcl hc8 a0 a1 hlo (by simp) he (nx (by simp) (by simp)) (no_res (by simp))
  | collect op d n q ho hd hn h0 h1 => exact beh_set hl hw8 hcl hc8 a0 a1 hlo (.inr ⟨by simp, rfl⟩) he (nx (by simp) (by simp)) (res_collect hwd hd)
  | get d n hd h0 h1 =>
    obtain ⟨u, hu⟩ := res_get (k := k) (z := z) (r := r) (gr := gr) (bl := bl) (x := x) (y := y) (v := v) (m := m) (at_ := at_) (th := th) (wd := wd) (ws := ws) hcl hc8 hd h0 h1
    exact beh_set hl hw8 hcl hc8 a0 a1 hlo (.inl ⟨by simp, rfl⟩) he (nx (by simp) (by simp)) hu
  | keep n q h0 h1 hm => exact beh_keep hl hw8 hcl hc8 a0 a1 hlo he h0 h1 hm (nx (by simp) (by simp))
  | jump n h0 h1 => exact beh_jump hl hw8 hcl hc8 a0 a1 hlo he h0 h1 (no_res (by simp))
  | exit => exact beh_exit hl hw8 hcl hc8 a0 a1 hlo he
  | branch n q j hn h0 h1 h2 h3 => exact beh_branch hl hw8 hcl hc8 a0 a1 hlo he hn h0 h1 (nx (by simp) (by simp)) (no_res (by simp))
end
theorem law_ok : ∀ ns : List Int, ns.length ≤ 63 → ∃ g', Fn.run T (callN T 30) ⟨1, 11, blaw⟩ [.fl (ns.map W.int)] [] = .ok (.bl true) g' := by
  intro ns hns
  suffices h : (Fn.run T (callN T 30) ⟨1, 11, blaw⟩ [.fl (ns.map W.int)] []).To (fun w g => w = .bl true) noX by
    obtain ⟨w, g, e, rfl⟩ := h.ok
    exact ⟨g, e⟩
  refine frun_To rfl ?_
  obtain ⟨z, e⟩ := stream_ok 29 ns
  exists blaw, Flaw_t0, Flaw_0, startE, e, Flaw_t1, Flaw_1
  refine code_to fun many loc rows z1 hC => ?_
  exists Flaw_t2, Flaw_2
  refine started_to fun gr bl x y v m z2 hL => ?_
  have hm3 := hC.m3
  have hm14 := hC.m14
  have hlen := hC.len
  have hl0 := hC.l0
  have hl6 := hC.l6
  have e1 := check_code_ok (k := 24) (z := z2) (r := []) hC
  obtain ⟨e2, e3⟩ := first_ok (k := 29) (z := z2) (r := []) (rows := rows) hl0 hl6
  exists Flaw_t3, Flaw_3, e1, e2, e3, lane_ne, R.of, Flaw_t4, Flaw_4
  have l8 : (8 : Nat) ≤ lim := lim_le (by omega)
  have lo := lim_ok (n := loc) (by omega) (by omega)
  have ll := lim_le (n := loc.toNat) (by omega)
  have g0 : 0 < gr * bl ∧ gr * bl ≤ 32 := by
    have h1 := hL.g1; have h2 := hL.g4; have h3 := hL.b1; have h4 := hL.b8
    have hg : gr = 1 ∨ gr = 2 ∨ gr = 3 ∨ gr = 4 := by omega
    rcases hg with rfl | rfl | rfl | rfl <;> omega
  have s1 : smallI gr = true := small_of (by have h1 := hL.g1; have h2 := hL.g4; omega)
  have s2 : smallI bl = true := small_of (by have h1 := hL.b1; have h2 := hL.b8; omega)
  unfold codeW
  exists R.of, l8
  refine draw_to (m := (rows.length : Int)) (by omega) (by omega) fun at_ z3 a0 a1 => ?_
  have cw : ∀ (z : SS) (ρ : Dl.Env), ρ[1]? = some (some (.ref 1)) → 6 < ρ.length → ∀ w, (ev T (callN T 30) (.call 28 (.cons (.var 1) .nil)) (ρ.set 6 (some w)) (hp z [])).To (fun x g => ∃ v z', x = .int v ∧ IsWord v ∧ g = hp z' []) noX := by
    intro z ρ h1 h6 w
    have h1' : (ρ.set 6 (some w))[1]? = some (some (.ref 1)) := by rw [List.getElem?_set_ne (by decide)]; exact h1
    exists h1'
    exact lword_to fun v z' hv => ⟨v, rfl, hv, z', rfl⟩
  refine compD (E := IsWord) (by intros; simp [tst, ev]) (fun w _ z => cw z _ rfl (by simp [wipeE]) w) ?_
  intro ws z4 hwl hws
  exists lo, ll
  refine compD (E := IsWord) (by intros; simp [tst, ev]) (fun w _ z => cw z _ rfl (by simp [wipeE]) w) ?_
  intro cs z5 hcl hcs
  have hwl : ws.length = 8 := by simpa using hwl
  have hcl : (cs.length : Int) = loc := by
    rw [List.length_map, List.length_range] at hcl
    omega
  have hla : laW gr bl x y v m = .tup [.int gr, .int bl, .tup [.int x, .int y, .int v, .int 7, .int (-9)], m] := rfl
  exists Flaw_t5, Flaw_5, hla, run_mul s1 s2
  refine draw_to (m := gr * bl) (by omega) (by omega) fun th z6 t0 t1 => ?_
  exists Flaw_t6, Flaw_6, R.of
  obtain ⟨P, hP⟩ : ∃ P : Nat → Dl.Env → G → Prop, ∀ j ρ g, P j ρ g ↔ ∃ (v6 v7 v8 v9 : Option W) (y' : SS) (at_ : Int) (ws cs : List Int), ρ = [some (.fl (ns.map W.int)), some (.ref 1), some (codeW loc rows), some (laW gr bl x y v m), some (laneW at_ ws cs), some (.int th), v6, v7, v8, v9, none] ∧ g = hp y' [] ∧ 0 ≤ at_ ∧ at_ < many ∧ ws.length = 8 ∧ (∀ x ∈ ws, IsWord x) ∧ (cs.length : Int) = loc ∧ ∀ x ∈ cs, IsWord x := ⟨_, fun _ _ _ => Iff.rfl⟩
  have p0 : P 0 [some (.fl (ns.map W.int)), some (.ref 1), some (codeW loc rows), some (laW gr bl x y v m), some (laneW at_ ws cs), some (.int th), none, none, none, none, none] (hp z6 []) := (hP ..).mpr ⟨_, _, _, _, _, _, _, _, rfl, rfl, a0, by omega, hwl, hws, hcl, hcs⟩
  unfold codeW laneW laW at p0
  refine forR_To (n := 6) (P := P) p0 ?_ ?_
  · intro j ρ g hj h
    obtain ⟨v6, v7, v8, v9, y', at_, ws, cs, rfl, rfl, a0, a1, hwl, hws, hcl, hcs⟩ := (hP ..).mp h
    refine ⟨_, rfl, ?_⟩
    obtain ⟨w, ew, hw⟩ := atW_mem (xs := rows) (v := at_) a0 (by omega)
    have hi := hC.ins w hw
    have rq := fun z => req_ok (k := 29) (z := z) (r := []) (cs := cs) hwl ew hi
    obtain ⟨l, hl5, hsc, q1, q2⟩ := rq y'
    have hne : ∀ g, Cop.run .ne (.tup l) (.tup l) g = some false := fun g => Dq.ne (Dq.tup fun x hx => Dq.sc (hsc x hx))
    exists Flaw_6f_t0, Flaw_6f0, q1, q2, hne, R.of, Flaw_6f_t1, Flaw_6f1
    refine lword_to fun wd z7 hwd => ?_
    obtain ⟨f, ws', cs', f0, f1, hwl', hws', hcl', hcs', b1, b2⟩ := beh_all (k := 24) (z := z7) (r := []) hC hL hwl hws hcl hcs a0 a1 t0 (by omega) hwd ew hi
    obtain ⟨l', hl5', hsc', q1', q2'⟩ := rq z7
    have hty : isTy (laneW f ws' cs') .tuple (hp z7 []) = some true := rfl
    exists Flaw_6f_t2, Flaw_6f2, b2, Flaw_6f_t3, Flaw_6f3, b1, Flaw_6f_t4, Flaw_6f4, hty, lane_ne, R.of, Flaw_6f_t5, Flaw_6f5
    have hcut : cutW [W.int f, W.tup (ws'.map W.int), W.tup (cs'.map W.int)] none (some 1) = [W.int f] := rfl
    have hwl2 : (ws'.map W.int).length = 8 := by rw [List.length_map]; exact hwl'
    have hcl2 : (cs'.map W.int).length ≤ 6 := by rw [List.length_map]; omega
    have hall : ∀ x ∈ W.int f :: (ws'.map W.int ++ (cs'.map W.int ++ l')), Sc x := by
      intro x hx
      rcases List.mem_cons.mp hx with rfl | hx
      · exact .inl ⟨_, rfl⟩
      · rcases List.mem_append.mp hx with hx | hx
        · obtain ⟨i, _, rfl⟩ := List.mem_map.mp hx; exact .inl ⟨i, rfl⟩
        · rcases List.mem_append.mp hx with hx | hx
          · obtain ⟨i, _, rfl⟩ := List.mem_map.mp hx; exact .inl ⟨i, rfl⟩
          · exact hsc' x hx
    unfold laneW
    generalize hA : ws'.map W.int = A at *
    generalize hB : cs'.map W.int = B at *
    have k1 : Bop.run .add (.tup [.int f]) (.tup A) (hp z7 []) = .ok (.tup (.int f :: A)) (hp z7 []) := run_catT (x := [.int f]) (lim_le (by simp; omega))
    have k2 : Bop.run .add (.tup (.int f :: A)) (.tup B) (hp z7 []) = .ok (.tup (.int f :: (A ++ B))) (hp z7 []) := run_catT (x := .int f :: A) (lim_le (by simp; omega))
    have k3 : Bop.run .add (.tup (.int f :: (A ++ B))) (.tup l') (hp z7 []) = .ok (.tup (.int f :: (A ++ (B ++ l')))) (hp z7 []) := by
      have := run_catT (g := hp z7 []) (x := .int f :: (A ++ B)) (y := l') (lim_le (by simp; omega))
      rw [this, List.cons_append, List.append_assoc]
    have hL : (W.int f :: (A ++ (B ++ l'))).length ≤ lim := lim_le (by simp; omega)
    generalize W.int f :: (A ++ (B ++ l')) = L at *
    have hcomp : ∀ ρ : Dl.Env, 10 < ρ.length → compV (.nm 10) (tst T (callN T 30) (.cst (.bl true))) (ev T (callN T 30) (.isi (.var 10) .bool)) ρ L (hp z7 []) = .ok (L.map fun _ => W.bl false) (hp z7 []) := by
      intro ρ hρ
      refine compV_map fun x hx => ⟨_, rfl, by simp [tst, ev], ?_⟩
      have e10 : (ρ.set 10 (some x))[10]? = some (some x) := List.getElem?_set_self hρ
      have hb : isTy x .bool (hp z7 []) = some false := by
        rcases hall x hx with ⟨i, rfl⟩ | ⟨s, rfl, _⟩ <;> rfl
      simp [ev, e10, hb, R.of]
    have hbl : asBls (L.map fun _ => W.bl false) = some (L.map fun _ => false) := all_map (fun _ => false) L
    have hany : (L.map fun _ => false).any id = false := by simp
    have hlen2 : ([some (W.fl (ns.map W.int)), some (.ref 1), some (codeW loc rows), some (laW gr bl x y v m), some (.tup [.int at_, .tup (ws.map W.int), .tup (cs.map W.int)]), some (.int th), some (.int (j : Nat)), some (.int wd), some (.tup [.int f, .tup A, .tup B]), some (.tup [.int f, .tup A, .tup B]), (none : Option W)] : Dl.Env).length = 11 := rfl
    unfold laneW at q1'
    exists hcut, k1, k2, q1', k3, hL, wipeE, hcomp, hbl, hany, R.of
    exists Flaw_6f_t6, Flaw_6f6
    refine (hP ..).mpr ⟨some (.int (j : Nat)), some (.int wd), some (laneW f ws' cs'), some (laneW f ws' cs'), z7, f, ws', cs', ?_, rfl, f0, f1, hwl', hws', hcl', hcs'⟩
    rw [← hA, ← hB]
    rfl
  · intro ρ g h
    obtain ⟨v6, v7, v8, v9, y', at_, ws, cs, rfl, rfl, a0, a1, hwl, hws, hcl, hcs⟩ := (hP ..).mp h
    exists Flaw_t7, Flaw_7

end Kx
namespace Kx
open PySem L2 Dl
def names0 : List PySem.Str := [("BINARY" : PySem.Str), ("UNARY" : PySem.Str), ("FOLDING" : PySem.Str), ("LEAST" : PySem.Str), ("GREATEST" : PySem.Str), ("MODULUS" : PySem.Str), ("is_whole" : PySem.Str), ("is_word" : PySem.Str), ("wrapped" : PySem.Str), ("divided" : PySem.Str), ("arithmetic" : PySem.Str), ("bits" : PySem.Str), ("compared" : PySem.Str), ("binary" : PySem.Str), ("unary" : PySem.Str), ("FIRST_SHARED" : PySem.Str), ("special" : PySem.Str), ("REGISTERS" : PySem.Str), ("first_lane" : PySem.Str), ("request" : PySem.Str), ("changed" : PySem.Str), ("result" : PySem.Str), ("behind" : PySem.Str), ("DrawloomError" : PySem.Str), ("BadCode" : PySem.Str), ("SPECIALS" : PySem.Str), ("SMALL" : PySem.Str), ("DIGITS" : PySem.Str), ("MOST_NAME" : PySem.Str), ("MOST_PARAMS" : PySem.Str), ("MOST_SHARED" : PySem.Str), ("MOST_SIZE" : PySem.Str), ("is_name" : PySem.Str), ("is_one_of" : PySem.Str), ("is_pair" : PySem.Str), ("are_params" : PySem.Str), ("are_shared" : PySem.Str), ("have_names" : PySem.Str), ("MOST_LOCAL" : PySem.Str), ("MOST_CODE" : PySem.Str)]
def names1 : List PySem.Str := [("MOST_NUMBER" : PySem.Str), ("FORMS" : PySem.Str), ("WORDS" : PySem.Str), ("is_below" : PySem.Str), ("is_array" : PySem.Str), ("is_part" : PySem.Str), ("is_instruction" : PySem.Str), ("check_code" : PySem.Str), ("_law_stream" : PySem.Str), ("_law_draw" : PySem.Str), ("_law_word" : PySem.Str), ("_law_wrapped" : PySem.Str), ("_law_bits" : PySem.Str), ("_law_shifted" : PySem.Str), ("_law_binary" : PySem.Str), ("_law_unary" : PySem.Str), ("_law_register" : PySem.Str), ("_law_plain_instruction" : PySem.Str), ("_law_instruction" : PySem.Str), ("_law_code" : PySem.Str), ("_law_started" : PySem.Str), ("_law_first" : PySem.Str), ("_law_request" : PySem.Str), ("_law_written" : PySem.Str), ("_law_behind" : PySem.Str)]
def names : List PySem.Str := names0 ++ names1
abbrev R : PySem.W.OpenRow := PySem.W.OpenLaw.row PySem.Challenge.rw_drawloom_k61_lanes
abbrev hk : PySem.W.Hook := He.hookX 6 (g.fa ++ [He.Fa.glo "law"]) (g.fns.map (·.d) ++ [flaw.d]) g.ts [] g.ex
def ob (s : PySem.W.SharedT) : He.AlX := He.obsX 6 (g.fa ++ [He.Fa.glo "law"]) (g.fns.map (·.d) ++ [flaw.d]) g.ts [] g.ex (HandSHeadRun.getT s)
theorem ob_eq (s : PySem.W.SharedT) : ob s = hk.obs s.abs := He.obsX_eq (HandSHeadRun.getT_eq s)
def wb (w : World) (b : Bool) : World := { w with params := { w.params with followText := fun row => match decide (row = "special-get-raises") with | true => b | false => w.params.followText row } }
theorem wb_eq (w : World) : wb w (w.params.followText "special-get-raises") = w := by
  have hf : (fun row => match decide (row = "special-get-raises") with | true => w.params.followText "special-get-raises" | false => w.params.followText row) = w.params.followText := by
    funext row
    by_cases h : row = "special-get-raises"
    · subst h; rfl
    · rw [decide_eq_false h]
  unfold wb
  rw [hf]
theorem run_true (w : World) : HandSHeadRun.RunEq R (PySem.W.view R.prog [72]) hk ob 20000 names (wb w true) := by
  intro os
  kernel_rfl
theorem run_false (w : World) : HandSHeadRun.RunEq R (PySem.W.view R.prog [72]) hk ob 20000 names (wb w false) := by
  intro os
  kernel_rfl
theorem run (w : World) : HandSHeadRun.RunEq R (PySem.W.view R.prog [72]) hk ob 20000 names w := by
  rw [← wb_eq w]
  cases w.params.followText "special-get-raises"
  · exact run_false w
  · exact run_true w
end Kx
open PySem PySem.W PySem.Calls PyProof.Rows
theorem PySem.Challenge.cw_drawloom_k61_lanes_holds : PySem.Challenge.rw_drawloom_k61_lanes.Holds := by
  w_on; o_law
  refine HandSHeadRun.head_any (r := Kx.R) (q := PySem.W.view Kx.R.prog [72]) (H := Kx.hk) (ob := Kx.ob) (M := 20000) (loose := Kx.names) (d := HandSHeadRun.topDef Kx.R.prog 72) (kwd := []) Kx.ob_eq
    (by kernel_rfl) (fun s => by kernel_rfl) Kx.run (by kernel_rfl) (by kernel_rfl) (by kernel_rfl) (by rfl) (by first | assumption | decide +kernel) (by decide +kernel) ⟨rfl, rfl, rfl, rfl, rfl, by decide +kernel⟩ ?hw ?hc
  case hw => w_witness2
  case hc =>
    refine Dl.walk_t (l := PySem.Challenge.rw_drawloom_k61_lanes) (top := 63) (k := 30) (x := "_law_script") (g := Kx.g) (fl := Kx.flaw) (T := Kx.T) rfl (by decide) (by kernel_rfl) ⟨rfl, by decide, by decide⟩ Kx.T_eq Kx.law_c rfl ?F Kx.law_ok
    intro w mg f h Y G hmg0
    obtain ⟨K, KX, c⟩ := Y
    have hmg : mg ("law" : PySem.Str) = some (.ref f) := by
      have e : (HandSHeadRun.topDef Kx.R.prog 72).name = ("law" : PySem.Str) := by kernel_rfl
      rw [← e]
      exact hmg0
    have t := Dl.told_of Kx.g_ok (fun f hf => List.mem_append_left _ hf) Dl.dfs_of KX G c
    have hf : He.fAd K ("law", none) = f := by
      have e := hmg.symm.trans (He.glo_ok (x := "law") KX G (c.t.d.facts (List.mem_append_right _ (List.mem_singleton.mpr rfl))))
      cases e
      rfl
    obtain ⟨fd, F⟩ := Dl.law_def (fl := Kx.flaw) c
    exact ⟨K, fd, KX, hf ▸ F, t⟩

