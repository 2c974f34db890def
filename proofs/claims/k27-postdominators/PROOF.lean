import PyProof.Rows.All
import Wide.All
import OpenK.AllK
import Wide.FinOn
import HandS.TupMul
import PyProof.Draws
import PyProof.EnumMake
import HandS.Zip0
import HandS.Iter
import PySem.Builtin.Int.W1All
import PyProof.ReprReads
import HandS.ForMost
import HandS.ForExc
import HandS.Wide
import HandS.HotCalls
import HandS.TupAny
import HandS.IsInst
import HandS.More
import HandS.Flow
import HandS.Style
import HandS.Strs
import HandS.DictComp
import HandS.Words
import HandS.WordsExc
import HandS.Defaults
import HandS.Head0
import HandS.Head1
import HandS.Head2
import HandS.HeadEnd
import HandS.HeadHook1
import HandS.HeadHook2
import HandS.HeadHook3
import HandS.HeadHook4
import PySem.Challenge.RW_drawloom_k27_postdominators
import PyProof.FitsInt
set_option Elab.async false
set_option linter.all false
set_option autoImplicit false
set_option maxRecDepth 1000000
set_option maxHeartbeats 0
/-! DlU: a tuple times an int, once or never. -/
namespace L2
open PySem PySem.Spec PyProof.Rows
theorem tuple_mul1 (l : Addr) (items : Array Value) (n : Nat) (dd : Option Addr) (sl : Array (Option Value)) (x : Int) (u : Tok) (c0 : (decide (x < -(2 ^ 63)) || decide (x ≥ 2 ^ 63)) = false) (c1 : (items.isEmpty || x == 1) = true) :
    Meets (Builtin.«tuple.__mul__» ⟨[.ref l, .int x u], []⟩) (fun _ R s => s.heap.get? l = some { cls := .type "tuple", dict := dd, data := .seq items n, slots := sl } ∧
      R (.ok (.ret (Value.ref l))) s) :=
  .of_wp fun prog w A R s h => by
    obtain ⟨hp, g, d, tk, os⟩ := s
    obtain ⟨hl, h⟩ := h
    have f1 := AutoSeq1.idx_int
    wp_walk using wpAny_loadPart' hl
    repeat (first
      | (refine wpAny_ite_false (decide_eq_false (by rw [c0]; exact Bool.false_ne_true)) ?_; wp_walk using wpAny_loadPart' hl)
      | (refine wpAny_ite_true (decide_eq_true c1) ?_; wp_walk using wpAny_loadPart' hl))
    exact ⟨_, rfl, h⟩
theorem tuple_mul0 (l : Addr) (items : Array Value) (n : Nat) (dd : Option Addr) (sl : Array (Option Value)) (x : Int) (u : Tok) (c0 : (decide (x < -(2 ^ 63)) || decide (x ≥ 2 ^ 63)) = false) (c1 : (items.isEmpty || x == 1) = false) (c2 : (decide (x ≤ 0) || items.isEmpty) = true) :
    Meets (Builtin.«tuple.__mul__» ⟨[.ref l, .int x u], []⟩) (fun _ R s => s.heap.get? l = some { cls := .type "tuple", dict := dd, data := .seq items n, slots := sl } ∧
      R (.ok (.ret (Value.ref s.heap.objs.size))) { s with heap := s.heap.push { cls := Value.type "tuple", data := Data.seq #[] }, toks := s.toks }) :=
  .of_wp fun prog w A R s h => by
    obtain ⟨hp, g, d, tk, os⟩ := s
    obtain ⟨hl, h⟩ := h
    have f1 := AutoSeq1.idx_int
    wp_walk using wpAny_loadPart' hl
    repeat (first
      | (refine wpAny_ite_false (decide_eq_false (by rw [c0]; exact Bool.false_ne_true)) ?_; wp_walk using wpAny_loadPart' hl)
      | (refine wpAny_ite_false (decide_eq_false (by rw [c1]; exact Bool.false_ne_true)) ?_; wp_walk using wpAny_loadPart' hl)
      | (refine wpAny_ite_true (decide_eq_true c2) ?_; wp_walk using wpAny_loadPart' hl))
    exact ⟨_, rfl, h⟩
def rRepA (K : PySem.W.Frag) : R2 := fun x y H Q => ∃ l k xs, x = .ref l ∧ y = .int k ∧ SqT K H l xs ∧ k ≤ 1000 ∧ -1000 ≤ k ∧ xs.length ≤ 1000 ∧ ((k = 1 ∨ xs = []) → Q (.ref l) H) ∧ (¬ (k = 1 ∨ xs = []) → ∀ p, H p = none → Q (.ref p) (upd H p (.tup (List.replicate k.toNat xs).flatten)))
theorem op_repA {X : Cx} : OpR X (binaryOp .Mult) (rRepA X.K) := by
  intro pins s σ H x y v u Q I rx ry h
  obtain ⟨l, k, xs, rfl, rfl, hT, h2, h1, hz, q1, q2⟩ := h
  by_cases hk : 2 ≤ k ∧ xs ≠ []
  · exact op_repT pins s σ H _ _ v u Q I rx ry ⟨l, k, xs, rfl, rfl, hT, hk.2, hk.1, h2, hz, q2 (by rintro (e | e); omega; exact hk.2 e)⟩
  cases rx
  obtain ⟨t, rfl⟩ := ry
  obtain ⟨its, r, ⟨⟨cls, dd, data, sl⟩, ho, hc, n, hd⟩, hs⟩ := I.tuple hT
  simp only at hc hd
  subst hc hd
  have hle : its.length = xs.length := r.length.symm
  have c0 : (decide (k < -(2 ^ 63)) || decide (k ≥ 2 ^ 63)) = false := by
    rw [decide_eq_false (by omega), decide_eq_false (by omega)] <;> rfl
  by_cases h1 : k = 1 ∨ xs = []
  · have c1 : (its.toArray.isEmpty || k == 1) = true := by
      rcases h1 with rfl | rfl
      · simp
      · have : its = [] := List.eq_nil_of_length_eq_zero hle
        subst this; rfl
    refine wpAny_binaryOp_repeat_ref (T := "tuple") (U := "int") (by decide) ⟨_, ho, rfl⟩ (fun s' => typeIs_int s' k t) noFill_tuple_mul F.fills_int_mul F.slot_int_rmul repeat_tuple F.slot_int_index.lookup
      (call_meets F.slot_int_rmul (typeIs_int s k t) F.entry_int_rmul (F.args_int_rmul_2 _ _) (int_rmul_tuple k t l its.toArray n dd sl)
        ⟨ho, rfl, ⟨_, ho, rfl⟩, call_meets F.slot_tuple_mul ⟨_, ho, rfl⟩ F.entry_tuple_mul (F.args_tuple_mul_2 _ _) (tuple_mul1 l its.toArray n dd sl k t c0 c1) ⟨ho, ?_⟩⟩)
    exact ⟨.ref l, H, I, rfl, q1 h1⟩
  · have hn : its ≠ [] := fun e => h1 (.inr (by
      rw [e] at hle
      exact List.eq_nil_of_length_eq_zero hle.symm))
    have hx : xs ≠ [] := fun e => h1 (.inr e)
    have hk0 : k ≤ 0 := by
      have : k ≠ 1 := fun e => h1 (.inl e)
      have : ¬ 2 ≤ k := fun e => hk ⟨e, hx⟩
      omega
    have hi : its.toArray.isEmpty = false := by
      cases its with
      | nil => exact absurd rfl hn
      | cons a b => rfl
    have c1 : (its.toArray.isEmpty || k == 1) = false := by
      rw [hi, Bool.false_or]
      exact beq_eq_false_iff_ne.mpr (by omega)
    have c2 : (decide (k ≤ 0) || its.toArray.isEmpty) = true := by
      rw [decide_eq_true hk0]; rfl
    have e0 : k.toNat = 0 := by omega
    refine wpAny_binaryOp_repeat_ref (T := "tuple") (U := "int") (by decide) ⟨_, ho, rfl⟩ (fun s' => typeIs_int s' k t) noFill_tuple_mul F.fills_int_mul F.slot_int_rmul repeat_tuple F.slot_int_index.lookup
      (call_meets F.slot_int_rmul (typeIs_int s k t) F.entry_int_rmul (F.args_int_rmul_2 _ _) (int_rmul_tuple k t l its.toArray n dd sl)
        ⟨ho, rfl, ⟨_, ho, rfl⟩, call_meets F.slot_tuple_mul ⟨_, ho, rfl⟩ F.entry_tuple_mul (F.args_tuple_mul_2 _ _) (tuple_mul0 l its.toArray n dd sl k t c0 c1 c2) ⟨ho, ?_⟩⟩)
    have q3 := q2 h1
    rw [e0] at q3
    refine ⟨.ref s.heap.objs.size, _, I.laid (t' := s.toks) (o := .tup []) (fun b ob q => Heap.get?_push_of_some _ q) (Nat.le_refl _) ?_, rfl, q3 _ (I.hok.fresh (Nat.le_refl _))⟩
    exact ⟨by rw [sizeLine_eq]; decide, [], .nil, IsTup.new _ _⟩
end L2

/-! ### enumerate over a tuple (Dl: walks) -/
namespace DlU
open PySem L2 PySem.Spec PyProof.Rows
open AutoSeq1 (wpAny_loadPart')
theorem meets_enumerate_newT (l : Addr) (items : Array Value) (n : Nat) (dct : Option Addr) (sl : Array (Option Value)) :
    Meets (Builtin.«enumerate.__new__» ⟨[.type "enumerate", .ref l], []⟩) (fun _ R s => s.heap.get? l = some { cls := .type "tuple", dict := dct, data := .seq items n, slots := sl } ∧
      R (.ok (.ret (.ref (s.heap.push { cls := .type "tuple_iterator", data := .fields #[.ref l, .int 0 0] }).objs.size)))
        { s with heap := (s.heap.push { cls := .type "tuple_iterator", data := .fields #[.ref l, .int 0 0] }).push { cls := .type "enumerate", data := .fields #[.none, .bool false, .ref s.heap.objs.size, rawInt 0, .none, .none] } }) :=
  .of_wp fun prog w A R s h => by
    obtain ⟨hp, g, d, tk, os⟩ := s; obtain ⟨hl, h⟩ := h
    have hsub := sub_enumerate
    have hL : Heap.IsTuple (Shared.heap ⟨hp, g, d, tk, os⟩) l items := ⟨_, hl, rfl, n, rfl⟩
    wp_walk using wpAny_loadPart' hl
    refine wpAny_stack_any fun st => wpAny_pure ?_
    split
    · rename_i c _ _ _ _ _
      cases (c == Value.type "enumerate")
      · wp_walk using wpAny_loadPart' hl, wpAny_pyIter_tuple hL
        exact ⟨_, rfl, h⟩
      · wp_walk using wpAny_loadPart' hl, wpAny_pyIter_tuple hL
        exact ⟨_, rfl, h⟩
    · wp_walk using wpAny_loadPart' hl, wpAny_pyIter_tuple hL
      exact ⟨_, rfl, h⟩
section
variable {prog : Program} {w : World} {A : Around} {E : Value → Shared → Prop} {s : Shared}
theorem call_enumerate_tuple {l : Addr} {items : Array Value} {Q : Value → Shared → Prop} (hL : s.heap.IsTuple l items)
    (h : ∀ h', IsEnum h' (s.heap.objs.size + 1) s.heap.objs.size 0 .none → h'.IsTupleIter s.heap.objs.size l 0 → h'.objs.size = s.heap.objs.size + 2 →
      (∀ b o, s.heap.get? b = some o → h'.get? b = some o) → Q (.ref (s.heap.objs.size + 1)) { s with heap := h' }) :
    wpAny (model prog w) A (call (.type "enumerate") [.ref l]) Q E s := by
  obtain ⟨⟨c, dct, dt, sl⟩, hl, hc, n, hd⟩ := hL
  replace hc : c = .type "tuple" := hc
  replace hd : dt = .seq items n := hd
  subst hc hd
  refine callType_new F.called_enumerate (by decide) (F.typeCall_enumerate_1 _) (F.newCall_enumerate_1 _) (fun obj => F.args_object_init_2 obj _) F.entry_enumerate_new
    (meets_enumerate_newT l items n dct sl) ⟨hl, ?_⟩
  have hz : (s.heap.push { cls := .type "tuple_iterator", data := .fields #[.ref l, .int 0 0] }).objs.size = s.heap.objs.size + 1 := Heap.size_push ..
  show _ ∧ _
  rw [hz]
  have he : IsEnum ((s.heap.push { cls := .type "tuple_iterator", data := .fields #[.ref l, .int 0 0] }).push
      { cls := .type "enumerate", data := .fields #[.none, .bool false, .ref s.heap.objs.size, rawInt 0, .none, .none] }) (s.heap.objs.size + 1) s.heap.objs.size 0 .none := by
    have := Heap.get?_push_size (s.heap.push { cls := .type "tuple_iterator", data := .fields #[.ref l, .int 0 0] })
      (o := { cls := .type "enumerate", data := .fields #[.none, .bool false, .ref s.heap.objs.size, rawInt 0, .none, .none] }) rfl
    rw [hz] at this; exact this
  refine ⟨⟨_, he, rfl⟩, h _ he ⟨_, Heap.get?_push_of_some _ (Heap.get?_push_size _ rfl), rfl, rfl⟩ (by rw [Heap.size_push, hz]) fun b o x => Heap.get?_push_of_some _ (Heap.get?_push_of_some _ x)⟩
end
theorem drawsT {prog : Program} {w : World} {A : Around} (hh : A.handled = none) (it l : Addr) (hne : l ≠ it) (items : Array Value) :
    Draws prog w A it [it, l] items.size (fun i v => items[i]? = some v) (fun i h => h.IsTupleIter it l i ∧ h.IsTuple l items) where
  live := fun _ _ st => let ⟨o, ho, _⟩ := st.1; ⟨o, ho⟩
  frame := fun _ _ _ st hk => ⟨let ⟨o, ho, r⟩ := st.1; ⟨o, hk it (by simp) o ho, r⟩, let ⟨o, ho, r⟩ := st.2; ⟨o, hk l (by simp) o ho, r⟩⟩
  item := fun i s Q E hi st hQ => by
    refine RZ.nextOf_tuple_item st.1 st.2 (x := items[i]) (by simp [hi]) fun h' hit' hs' => ?_
    exact hQ _ h' s.toks (by simp [hi]) ⟨hit', st.2.extBut hs'.extBut hne⟩ hs'
  done := fun s Q E st hE => RZ.nextOf_tuple_end hh st.1 st.2 (by simp) hE
/-- a tuple's items, each in a new pair -/
def IteT (K : PySem.W.Frag) (a : Addr) : It :=
  ⟨fun i H => ∃ (xs : List V) (x : V), SqT K H a xs ∧ xs[i]? = some x, fun i H v H' => ∃ T x, v = .ref T ∧ H T = none ∧ H' = upd H T (.tup [.int (i : Nat), x]) ∧ ∀ xs, SqT K H a xs → xs[i]? = some x, fun i H => ∃ xs : List V, SqT K H a xs ∧ xs.length ≤ i⟩
theorem apart {h : Heap} {e it a : Addr} {i : Int} {j : Nat} {old : Value} {items : Array Value} (he : IsEnum h e it i old) (hi : h.IsTupleIter it a j) (ht : h.IsTuple a items) : e ≠ a ∧ a ≠ it := by
  obtain ⟨o, h1, h2, _⟩ := ht
  obtain ⟨o', h3, h4, _⟩ := hi
  refine ⟨?_, ?_⟩
  · rintro rfl
    rw [show h.get? e = some _ from he] at h1
    cases h1
    have h3 : ("enumerate" : String) = "tuple" := by injection h2
    exact absurd h3 (by decide)
  · rintro rfl
    rw [h3] at h1
    cases h1
    rw [h4] at h2
    have h5 : ("tuple_iterator" : String) = "tuple" := by injection h2
    exact absurd h5 (by decide)
theorem enum_endT {prog : Program} {w : World} {A : Around} {E : Value → Shared → Prop} {s : Shared} {e it l : Addr} {i : Nat} {items : List Value} {old : Value} {Q : Option Value → Shared → Prop} (hh : A.handled = none)
    (he : IsEnum s.heap e it i old) (hit : s.heap.IsTupleIter it l i) (hl : s.heap.IsTuple l items.toArray) (hx : items[i]? = none)
    (hQ : ∀ h', Heap.ExtBut it s.heap h' → Q none { s with heap := h' }) : wpAny (model prog w) A (pyNext (.ref e)) Q E s := by
  have hT : s.TypeIs (.ref e) "enumerate" := ⟨_, he, rfl⟩
  unfold pyNext
  refine wpAny_bind (wpAny_attempt (wpAny_callSpecial?_slot (name := Str.ofString "__next__") hT F.slot_enumerate_next
    (wpAny_call_entry F.slot_enumerate_next hT F.entry_enumerate_next ?_ (F.args_enumerate_next_1 _))))
  show wpAny _ _ (field (.ref e) 2 >>= _) _ _ _
  refine wpAny_bind (wpAny_field he rfl (x := .ref it) rfl ?_)
  refine wpAny_bind (RZ.nextOf_tuple_end (show A.in1.handled = none from hh) hit hl (by simpa using hx) fun h' x he' hx' => ?_)
  obtain ⟨o, ho, hc⟩ := hx'
  refine wpAny_bind (wpAny_isInstance (T := "StopIteration") (b := true) ⟨o, ho, hc⟩ isSubtype_stop ?_)
  exact wpAny_pure (hQ _ he')
theorem turn_enumT {P : Program} {w : World} {K : PySem.W.Frag} {elts : List Expr} {kk : Nat} {tpos : Pos} (a e it : Addr) :
    Turn P w K (.Tuple elts kk tpos) (IteT K a) [e, it] e (fun i h => (∃ old, IsEnum h e it ((i : Nat) : Int) old) ∧ h.IsTupleIter it a i ∧ e ≠ it) where
  mem := by simp
  obj := fun i h st b hb => by
    obtain ⟨⟨old, he⟩, ⟨o, ho, hc, hd⟩, _⟩ := st
    have e' : b = e ∨ b = it := by simpa using hb
    rcases e' with z | z
    · rw [z]; exact ⟨_, he, fun v q => nomatch q⟩
    · rw [z]; exact ⟨o, ho, fun v q => by rw [hd] at q; cases q⟩
  keep := fun i h h' st k => let ⟨⟨old, he⟩, ⟨o, ho, r⟩, hne⟩ := st; ⟨⟨old, k e (by simp) _ he⟩, ⟨o, k it (by simp) o ho, r⟩, hne⟩
  item := by
    intro X hP hw hK hc i pins s σ H E I hf st hg
    subst hP hw hK
    obtain ⟨⟨old, he⟩, hit, hne⟩ := st
    obtain ⟨xs, x, hq, hx⟩ := hg
    obtain ⟨its, rv, p, hz⟩ := I.tuple hq
    have p : s.heap.IsTuple a its.toArray := p
    obtain ⟨u, hu, ru⟩ := rv.get hx
    obtain ⟨hea, hai⟩ := apart he hit p
    have hel : e < s.heap.objs.size := Heap.lt_size he
    have hil : it < s.heap.objs.size := by obtain ⟨_, q, _⟩ := hit; exact Heap.lt_size q
    have hlt : i < its.toArray.size := by have := (List.getElem?_eq_some_iff.mp hu).1; simpa using this
    refine wpAny_pyNext_enum_itemD (drawsT (show X.A.in1.handled = none from I.ok.hd hc) it a hai its.toArray) he ⟨hit, p⟩ hlt hne (by simp [hne, hea]) fun x' h' tk hP ho hst' hT hsz hk => ?_
    obtain rfl : x' = u := by
      have : its[i]? = some x' := by simpa using hP
      rw [hu] at this
      exact (Option.some.inj this).symm
    refine ⟨_, rfl, wpAny_letOwnedTupleGo_enum (s := { s with heap := h', toks := tk + 1 }) ho fun h'' he' sb => ?_⟩
    have hT2 : h''.get? s.heap.objs.size = some { cls := .type "tuple", data := .seq #[.int i tk, x'] } := (sb.2 _ (Nat.ne_of_gt hel)).trans hT
    have new : ObjOk X.prog X.w (upd H s.heap.objs.size (.tup [.int (i : Nat), x])) h'' s.heap.objs.size (.tup [.int (i : Nat), x]) :=
      ⟨by show 2 ≤ sizeLine; decide, [.int i tk, x'], .cons ⟨_, rfl⟩ (.cons ru .nil), ⟨_, hT2, rfl, _, rfl⟩⟩
    have I1 : Inv X pins σ (upd H s.heap.objs.size (.tup [.int (i : Nat), x])) { s with heap := h'', toks := tk + 1 } :=
      I.turnedNew (ch := [e, it]) (fun b ob hb q => (sb.2 b (fun z => hb (by simp [z]))).trans (hk b ob (fun z => hb (by simp [z])) (fun z => hb (by simp [z])) q)) hf (Nat.le_refl _) new
    refine ⟨.ref s.heap.objs.size, _, I1, rfl, ⟨_, x, rfl, I.hok.fresh (Nat.le_refl _), rfl, fun ys hy => by rw [I.tuple_inj hy hq]; exact hx⟩, ⟨⟨x', ?_⟩, ?_, hne⟩, fun b hb => ?_⟩
    · have e1 : ((i + 1 : Nat) : Int) = (i : Int) + 1 := by omega
      rw [e1]; exact he'
    · obtain ⟨o, ho', r⟩ := hst'.1
      exact ⟨o, (sb.2 it (Ne.symm hne)).trans ho', r⟩
    · have hb' : b < s.heap.objs.size := by
        have e' : b = e ∨ b = it := by simpa using hb
        rcases e' with z | z
        · rw [z]; exact hel
        · rw [z]; exact hil
      rw [upd_ne (Nat.ne_of_lt hb')]
      exact (hf b hb).1
  done := by
    intro X hP hw hK hc i pins s σ H E I hf st hg
    subst hP hw hK
    obtain ⟨⟨old, he⟩, hit, hne⟩ := st
    obtain ⟨xs, hq, hx⟩ := hg
    obtain ⟨its, rv, p, hz⟩ := I.tuple hq
    have p : s.heap.IsTuple a its.toArray := p
    obtain ⟨f0, f1, f2, f3, f4, f5⟩ := hf it (by simp)
    have hl := rv.length
    obtain ⟨hea, hai⟩ := apart he hit p
    exact enum_endT (I.ok.hd hc) he hit p (List.getElem?_eq_none_iff.mpr (by omega)) fun h' eb => ⟨rfl, I.turned (t' := s.toks) (fun b o hb q => eb b o hb q) f0 f1 f3 f4 f5⟩
  self := fun A i s Q E st h => let ⟨⟨_, he⟩, _⟩ := st; wpAny_pyIter_enum he h
def iEnumT (K : PySem.W.Frag) (ta : TA) : TI := fun σ H R => ta σ H fun vs H1 => ∃ a xs, vs = [.ref a] ∧ SqT K H1 a xs ∧ R (IteT K a) H1
theorem pi_enumT {X : Cx} {e : Expr} {ta : TA} {p pos tpos : Pos} {elts : List Expr} {kk : Nat} (hg : Gl X "enumerate") (hm : X.mg "enumerate" = none) (ha : PA X [e] ta) (hs : starEach [e] X.env = [(false, eval e X.env)] := by rfl) :
    PI X (.Tuple elts kk tpos) (.Call (.Name "enumerate" p) [e] [] pos) (iEnumT X.K ta) := by
  refine ⟨fun pins s σ H R I h => ?_⟩
  refine Call_ (ld_blt I hg hm boot_enumerate (PyProof.Rows.callWith_type1 (thn (ha.run pos pins s σ H _ I h) fun us s1 ⟨vs, H1, I1, r1, q1⟩ => ?_) hs rfl))
  obtain ⟨a, xs, ex, hq, q⟩ := q1
  subst ex
  cases r1 with
  | cons r rr =>
    cases rr
    cases r
    obtain ⟨its, rv, p', hz⟩ := I1.tuple hq
    have p' : s1.heap.IsTuple a its.toArray := p'
    refine call_enumerate_tuple p' fun h' he hit hsz hk => wpAny_pyIter_enum he ?_
    have I2 : Inv X pins σ H1 { s1 with heap := h' } := I1.kept (t' := s1.toks) hk
    refine ⟨s1.heap.objs.size + 1, [s1.heap.objs.size + 1, s1.heap.objs.size], _, _, H1, rfl, I2, turn_enumT a (s1.heap.objs.size + 1) s1.heap.objs.size, ⟨⟨.none, he⟩, hit, Nat.succ_ne_self _⟩, fun b hb => ?_, q⟩
    have e' : b = s1.heap.objs.size + 1 ∨ b = s1.heap.objs.size := by simpa using hb
    have hle : s1.heap.objs.size ≤ b := by
      rcases e' with z | z
      · rw [z]; exact Nat.le_add_right _ _
      · rw [z]; exact Nat.le_refl _
    exact I1.fpOk hle (I1.hok.fresh hle)
end DlU

/-! DlA: a small functional interpreter (values, heap, expressions, statements). -/
namespace Dl

inductive W where
  | non | bl (b : Bool) | int (i : Int) | str (s : List Nat) | tup (ws : List W) | ref (i : Nat) | exn (c : Nat) | fl (ws : List W) | fd (ks : List (List Nat)) (ws : List W)
  deriving Inhabited

mutual
/-- structural equality -/
def weq : W → W → Bool
  | .non, .non => true
  | .bl a, .bl b => a == b
  | .int a, .int b => a == b
  | .str a, .str b => a == b
  | .tup a, .tup b => weqs a b
  | .fl a, .fl b => weqs a b
  | .fd k a, .fd l b => (k == l) && weqs a b
  | .ref a, .ref b => a == b
  | .exn a, .exn b => a == b
  | _, _ => false
def weqs : List W → List W → Bool
  | [], [] => true
  | a :: r, b :: q => weq a b && weqs r q
  | _, _ => false
end
mutual
/-- no reference at n or beyond -/
def below (n : Nat) : W → Bool
  | .tup ws => belows n ws
  | .fl ws => belows n ws
  | .fd _ ws => belows n ws
  | .ref i => decide (i < n)
  | .exn _ => false
  | _ => true
def belows (n : Nat) : List W → Bool
  | [] => true
  | w :: r => below n w && belows n r
end
mutual
def depthW : W → Nat
  | .tup ws => depthWs ws + 1
  | .fl ws => depthWs ws + 1
  | .fd _ ws => depthWs ws + 1
  | _ => 1
def depthWs : List W → Nat
  | [] => 0
  | w :: r => max (depthW w) (depthWs r)
end

abbrev Nm := List Nat
inductive Ob where
  | lst (ws : List W) | dct (kvs : List (W × W)) | fz (kvs : List (W × W)) | set (ws : List W) | ins (c : Nat) (fs : List (Nm × W))
  deriving Inhabited
abbrev G := List Ob
abbrev Env := List (Option W)
def kvseq : List (W × W) → List (W × W) → Bool
  | [], [] => true
  | (a, b) :: r, (c, d) :: q => weq a c && weq b d && kvseq r q
  | _, _ => false
def fseq : List (Nm × W) → List (Nm × W) → Bool
  | [], [] => true
  | (a, b) :: r, (c, d) :: q => (a == c) && weq b d && fseq r q
  | _, _ => false
def obeq : Ob → Ob → Bool
  | .lst a, .lst b => weqs a b
  | .dct a, .dct b => kvseq a b
  | .fz a, .fz b => kvseq a b
  | .set a, .set b => weqs a b
  | .ins c a, .ins d b => (c == d) && fseq a b
  | _, _ => false
/-- an object without a reference at n or beyond -/
def lowO (n : Nat) : Ob → Bool
  | .lst ws => belows n ws
  | .dct kvs => kvs.all fun kv => below n kv.1 && below n kv.2
  | .fz kvs => kvs.all fun kv => below n kv.1 && below n kv.2
  | .set ws => belows n ws
  | .ins _ fs => fs.all fun f => below n f.2
/-- the beginning of the second one stands by itself: what is changed in it refers to nothing at n or beyond -/
def gpre (n : Nat) : G → G → Bool
  | [], _ => true
  | a :: r, b :: q => (obeq a b || lowO n b) && gpre n r q
  | _ :: _, [] => false

inductive R (α : Type) where
  | ok (a : α) (g : G) | exc (c : Nat) (g : G) | err
  deriving Inhabited
def R.bind {α β : Type} (r : R α) (f : α → G → R β) : R β := match r with
  | .ok a g => f a g
  | .exc c g => .exc c g
  | .err => .err
def R.of {α : Type} (o : Option α) (g : G) : R α := match o with
  | some a => .ok a g
  | none => .err

/-- what must not raise -/
def R.nx {α : Type} (r : R α) : R α := match r with
  | .exc _ _ => .err
  | r => r

/-! ### operations on values -/
inductive Bop where | add | sub | mul | fdiv | mod | pow | shl | shr | band | bor | bxor
  deriving DecidableEq
inductive Cop where | eq | ne | lt | le | gt | ge | is_ | isnot | in_ | notin
  deriving DecidableEq
inductive Ty where | int | bool | str | list | tuple | dict | cls (c : Nat)
  deriving DecidableEq
inductive B1 where | abs | int | len | str | repr
  deriving DecidableEq
inductive BS where | any | all | sum | max | min | tuple | list | sorted | len
  deriving DecidableEq

/-- == of scalars -/
def seqb : W → W → Bool
  | .non, .non => true
  | .bl a, .bl b => a == b
  | .bl a, .int j => (if a then 1 else 0) == j
  | .int i, .bl b => i == (if b then 1 else 0)
  | .int i, .int j => i == j
  | .str x, .str y => x == y
  | _, _ => false
/-- scalars that == tells apart at once -/
def scal2 : W → W → Bool
  | .non, .non | .non, .int _ | .int _, .non | .non, .bl _ | .bl _, .non | .non, .str _ | .str _, .non => true
  | .int _, .int _ | .bl _, .bl _ | .str _, .str _ => true
  | .int _, .str _ | .str _, .int _ | .bl _, .str _ | .str _, .bl _ => true
  | _, _ => false

def smallI (n : Int) : Bool := decide (n.natAbs.log2 < 400000)
def Bop.runI (o : Bop) (a b : Int) : Option Int := match o with
  | .add => some (a + b)
  | .sub => some (a - b)
  | .mul => if smallI a && smallI b then some (a * b) else none
  | .fdiv => if 0 < b ∧ b.natAbs.log2 < 9000 then some (a / b) else none
  | .mod => if 0 < b then some (a % b) else none
  | .pow => if 0 ≤ b ∧ b ≤ 1000000 ∧ a.natAbs < 2 ^ 64 then some (a ^ b.toNat) else none
  | .shl => if 0 ≤ b ∧ b ≤ 1000000 ∧ a.natAbs < 2 ^ 64 then some (a * 2 ^ b.toNat) else none
  | .shr => if 0 ≤ b then some (a / 2 ^ b.toNat) else none
  | .band => some (PySem.Builtin.bitAnd a b)
  | .bor => some (PySem.Builtin.bitOr a b)
  | .bxor => some (PySem.Builtin.bitXor a b)
def lim : Nat := 1000000
/-- a op b; a list is new -/
def Bop.run (o : Bop) (a b : W) (g : G) : R W := match a, b with
  | .int i, .int j => R.of ((o.runI i j).map W.int) g
  | .str x, .str y => match o with
    | .add => if x.length + y.length ≤ lim then .ok (.str (x ++ y)) g else .err
    | _ => .err
  | .tup x, .tup y => match o with
    | .add => if x.length + y.length ≤ lim then .ok (.tup (x ++ y)) g else .err
    | _ => .err
  | .ref p, .ref q => match o, g[p]?, g[q]? with
    | .add, some (.lst x), some (.lst y) => if x.length + y.length ≤ lim then .ok (.ref g.length) (g ++ [.lst (x ++ y)]) else .err
    | _, _, _ => .err
  | .ref p, .int k => match o, g[p]? with
    | .mul, some (.lst x) => if k ≤ lim ∧ -lim ≤ k ∧ x.length * k.toNat ≤ lim then .ok (.ref g.length) (g ++ [.lst (List.replicate k.toNat x).flatten]) else .err
    | _, _ => .err
  | .tup x, .int k => match o with
    | .mul => if k ≤ 1000 ∧ -1000 ≤ k ∧ x.length ≤ 1000 then .ok (.tup (List.replicate k.toNat x).flatten) g else .err
    | _ => .err
  | _, _ => .err

/-- the items of a list or a tuple that is read -/
def seqOf (w : W) (g : G) : Option (List W) := match w with
  | .tup ws => some ws
  | .fl ws => some ws
  | .ref i => match g[i]? with
    | some (.lst ws) => some ws
    | _ => none
  | _ => none
/-- the items of a list that is read -/
def lstOf (w : W) (g : G) : Option (List W) := match w with
  | .fl ws => some ws
  | .ref i => match g[i]? with
    | some (.lst ws) => some ws
    | _ => none
  | _ => none
/-- the entries of a dict that is read -/
def kvsOf (w : W) (g : G) : Option (List (W × W)) := match w with
  | .ref i => match g[i]? with
    | some (.dct kvs) => some kvs
    | some (.fz kvs) => some kvs
    | _ => none
  | _ => none
/-- data: scalars, tuples, lists, at most n deep -/
def dataOk (g : G) : Nat → W → Bool
  | 0, _ => false
  | n + 1, .tup ws => ws.all (dataOk g n)
  | n + 1, .ref i => match lstOf (.ref i) g with
    | some ws => ws.all (dataOk g n)
    | none => false
  | n + 1, .fl ws => ws.all (dataOk g n)
  | _ + 1, .exn _ => false
  | _ + 1, .fd _ _ => false
  | _ + 1, .str s => s.all fun c => decide (c < 1114112)
  | _ + 1, _ => true
/-- the same in the layer's words -/
def pd (g : G) : Nat → W → PySem.PyData
  | 0, _ => .none
  | n + 1, .tup ws => .tuple (ws.map (pd g n))
  | n + 1, .ref i => .list (((lstOf (.ref i) g).getD []).map (pd g n))
  | n + 1, .fl ws => .list (ws.map (pd g n))
  | _ + 1, .bl b => .bool b
  | _ + 1, .int i => .int i
  | _ + 1, .str s => .str (⟨s.toArray⟩)
  | _ + 1, _ => .none
/-- what repr says of a list or a tuple of data -/
def reprW (g : G) (x : W) : Option W := match x with
  | .tup _ | .ref _ => if dataOk g 60 x && ((pd g 60 x).showable && decide ((pd g 60 x).shown.length ≤ 1000000)) then some (.str (pd g 60 x).shown.cps.toList) else none
  | _ => none
def eqbs (f : W → W → Bool) : List W → List W → Bool
  | [], [] => true
  | x :: xs, y :: ys => f x y && eqbs f xs ys
  | _, _ => false
/-- == of data -/
def eqb (g : G) : Nat → W → W → Bool
  | 0, _, _ => false
  | n + 1, .tup xs, .tup ys => eqbs (eqb g n) xs ys
  | n + 1, a, b => match lstOf a g, lstOf b g with
    | some xs, some ys => eqbs (eqb g n) xs ys
    | _, _ => seqb a b
def flatW : W → Bool
  | .non | .bl _ | .int _ | .str _ => true
  | _ => false
/-- the index meant among n items -/
def ixW (n : Nat) (i : Int) : Option Nat := if 0 ≤ i then (if i < n then some i.toNat else none) else if -(n : Int) ≤ i then some (i + n).toNat else none
def atW {α : Type} (xs : List α) (i : Int) : Option α := (ixW xs.length i).bind fun j => xs[j]?
/-- a key that a dict may be asked for -/
def fits (_ : List (W × W)) (k : W) : Bool := match k with
  | .int _ | .str _ => true
  | _ => false
def getD (kvs : List (W × W)) (k : W) : Option W := match kvs with
  | [] => none
  | (a, b) :: r => if weq a k then some b else getD r k
def putD (kvs : List (W × W)) (k v : W) : List (W × W) :=
  if kvs.any fun kv => weq kv.1 k then kvs.map fun kv => if weq kv.1 k then (kv.1, v) else kv else kvs ++ [(k, v)]
def pairW : List W → Option (List (W × W))
  | [] => some []
  | [_] => none
  | a :: b :: r => (pairW r).map fun q => (a, b) :: q
def getF (fs : List (Nm × W)) (f : Nm) : Option W := match fs with
  | [] => none
  | (a, b) :: r => if a = f then some b else getF r f
def putFW (f : Nm) (v : W) : List (Nm × W) → List (Nm × W)
  | [] => [(f, v)]
  | (a, b) :: r => if a = f then (a, v) :: r else (a, b) :: putFW f v r

/-- a written dict's value -/
def getFd (ks : List (List Nat)) (ws : List W) (z : List Nat) : Option W := (ks.zip ws).lookup z
/-- x in y -/
def inW (x y : W) (g : G) : Option Bool := match y with
  | .tup ws => if flatW x && ws.all flatW then some (ws.any fun w => seqb w x) else none
  | .ref i => match g[i]? with
    | some (.lst ws) => if flatW x && ws.all flatW then some (ws.any fun w => seqb w x) else none
    | some (.dct kvs) => if fits kvs x then some (getD kvs x).isSome else none
    | some (.fz kvs) => if fits kvs x then some (getD kvs x).isSome else none
    | _ => none
  | .str z => match x with
    | .str [c] => some (z.contains c)
    | _ => none
  | .fd ks ws => match x with
    | .str z => some (getFd ks ws z).isSome
    | _ => none
  | _ => none
def eqW (x y : W) (g : G) : Option Bool :=
  if scal2 x y then some (seqb x y) else if dataOk g 60 x && dataOk g 60 y then some (eqb g 60 x y) else none
def Cop.run (o : Cop) (x y : W) (g : G) : Option Bool := match o with
  | .eq => eqW x y g
  | .ne => (eqW x y g).map (!·)
  | .lt => match x, y with
    | .int i, .int j => some (decide (i < j))
    | _, _ => none
  | .le => match x, y with
    | .int i, .int j => some (decide (i ≤ j))
    | _, _ => none
  | .gt => match x, y with
    | .int i, .int j => some (decide (j < i))
    | _, _ => none
  | .ge => match x, y with
    | .int i, .int j => some (decide (j ≤ i))
    | _, _ => none
  | .is_ => match y with
    | .non => some (match x with | .non => true | _ => false)
    | _ => none
  | .isnot => match y with
    | .non => some (match x with | .non => false | _ => true)
    | _ => none
  | .in_ => inW x y g
  | .notin => (inW x y g).map (!·)
def truthW (x : W) (g : G) : Option Bool := match x with
  | .non => some false
  | .bl b => some b
  | .int i => some (i != 0)
  | .str s => if s.length ≤ lim then some (!s.isEmpty) else none
  | .tup ws => some (!ws.isEmpty)
  | .fl ws => some (!ws.isEmpty)
  | .ref i => match g[i]? with
    | some (.lst ws) => some (!ws.isEmpty)
    | some (.dct kvs) => some (!kvs.isEmpty)
    | _ => none
  | .exn _ => none
  | .fd _ _ => none
/-- the places of a slice's bound -/
def cutIx (n d : Nat) : Option Int → Nat
  | none => d
  | some v => if v < 0 then (v + (n : Int)).toNat else min v.toNat n
def cutW {α : Type} (xs : List α) (lo hi : Option Int) : List α := (xs.drop (cutIx xs.length 0 lo)).take (cutIx xs.length xs.length hi - cutIx xs.length 0 lo)

def B1.run (b : B1) (x : W) (g : G) : Option W := match b with
  | .abs => match x with
    | .int i => some (.int (if i < 0 then -i else i))
    | _ => none
  | .int => match x with
    | .int i => some (.int i)
    | .bl k => some (.int (if k then 1 else 0))
    | _ => none
  | .len => match x with
    | .str s => if s.length ≤ lim then some (.int s.length) else none
    | .tup ws => some (.int ws.length)
    | .fl ws => some (.int ws.length)
    | .ref i => match g[i]? with
      | some (.lst ws) => some (.int ws.length)
      | some (.dct kvs) => some (.int kvs.length)
      | some (.fz kvs) => some (.int kvs.length)
      | _ => none
    | _ => none
  | .repr => reprW g x
  | _ => none
def asInts : List W → Option (List Int)
  | [] => some []
  | .int i :: r => (asInts r).map (i :: ·)
  | _ :: _ => none
def asStrs : List W → Option (List (List Nat))
  | [] => some []
  | .str i :: r => (asStrs r).map (i :: ·)
  | _ :: _ => none
/-- how many differ, the last first -/
def dcN : List (List Nat) → Nat
  | [] => 0
  | x :: r => if r.any (· == x) then dcN r else dcN r + 1
def asBls : List W → Option (List Bool)
  | [] => some []
  | .bl b :: r => (asBls r).map (b :: ·)
  | _ :: _ => none
def insI (x : Int) : List Int → List Int
  | [] => [x]
  | y :: r => if x ≤ y then x :: y :: r else y :: insI x r
def sortI : List Int → List Int
  | [] => []
  | x :: r => insI x (sortI r)
def maxI : List Int → Option Int
  | [] => none
  | x :: r => match maxI r with
    | none => some x
    | some y => some (if x < y then y else x)
def minI : List Int → Option Int
  | [] => none
  | x :: r => match minI r with
    | none => some x
    | some y => some (if y < x then y else x)
def BS.run (b : BS) (ws : List W) (g : G) : R W := match b with
  | .any => R.of ((asBls ws).map fun l => W.bl (l.any id)) g
  | .all => R.of ((asBls ws).map fun l => W.bl (l.all id)) g
  | .sum => R.of ((asInts ws).map fun l => W.int l.sum) g
  | .max => R.of (((asInts ws).bind maxI).map W.int) g
  | .min => R.of (((asInts ws).bind minI).map W.int) g
  | .tuple => .ok (.tup ws) g
  | .len => .ok (.int ws.length) g
  | .list => .ok (.ref g.length) (g ++ [.lst ws])
  | .sorted => match asInts ws with
    | some l => if l.length < 64 then .ok (.ref g.length) (g ++ [.lst ((sortI l).map W.int)]) else .err
    | none => .err

/-- the class of an instance -/
def clsOf (w : W) (g : G) : Option Nat := match w with
  | .ref i => match g[i]? with
    | some (.ins c _) => some c
    | _ => none
  | _ => none
def isTy (w : W) (t : Ty) (g : G) : Option Bool := match t with
  | .int => match w with
    | .int _ | .bl _ => some true
    | .non | .str _ | .tup _ => some false
    | .ref i => match g[i]? with
      | some (.lst _) | some (.dct _) => some false
      | _ => none
    | _ => none
  | .bool => match w with
    | .bl _ => some true
    | .int _ | .non | .str _ | .tup _ => some false
    | .ref i => match g[i]? with
      | some (.lst _) | some (.dct _) => some false
      | _ => none
    | _ => none
  | .str => match w with
    | .str _ => some true
    | .int _ | .non | .bl _ | .tup _ => some false
    | .ref i => match g[i]? with
      | some (.lst _) | some (.dct _) => some false
      | _ => none
    | _ => none
  | .list => match w with
    | .int _ | .non | .bl _ | .tup _ | .str _ => some false
    | .ref i => match g[i]? with
      | some (.lst _) => some true
      | some (.dct _) => some false
      | _ => none
    | _ => none
  | .tuple => match w with
    | .tup _ => some true
    | .int _ | .non | .bl _ | .str _ => some false
    | .ref i => match g[i]? with
      | some (.lst _) | some (.dct _) => some false
      | _ => none
    | _ => none
  | .dict => match w with
    | .tup _ | .int _ | .non | .bl _ | .str _ => some false
    | .ref i => match g[i]? with
      | some (.lst _) => some false
      | some (.dct _) => some true
      | _ => none
    | _ => none
  | .cls _ => none

/-! ### the text -/
inductive Tg where
  | nm (i : Nat) | tp (ts : List Nat)
  deriving Inhabited
/-- methods of built-in types: one argument, none -/
inductive M where | append | extend | pop0 | pop | get | setdefault | count | index
  deriving DecidableEq
mutual
inductive E where
  | cst (w : W) | var (i : Nat)
  | tup (es : EL) | lst (es : EL)
  | bop (o : Bop) (a b : E) | neg (a : E) | not (a : E)
  | cmp (o : Cop) (a b : E) | chain (o o' : Cop) (a b c : E)
  | and (a b : E) | or (a b : E) | ife (c a b : E)
  | idx (a b : E) | slo (a lo : E) | shi (a hi : E) | slh (a lo hi : E) | rev (a : E)
  | fld (a : E) (f : Nm)
  | call (f : Nat) (es : EL) | meth (o : E) (m : Nm) (es : EL) | new (c : Nat) (es : EL)
  | b1 (b : B1) (a : E) | bs (b : BS) (a : E) | bt (b : BS) (a : E) | max2 (a b : E) | min2 (a b : E) | isi (a : E) (t : Ty)
  | comp (vs : List Nat) (t : Tg) (s : Src) (c : E) (el : E)
  | dcomp (vs : List Nat) (t : Tg) (s : Src) (c : E) (k v : E)
  | srt (a : E)
  | dnew (es : EL)
  | lset (a : E)
  | mth (m : M) (o : E) (es : EL)
inductive EL where
  | nil | cons (e : E) (r : EL)
/-- what is walked -/
inductive Src where
  | seq (e : E) | rng1 (a : E) | rng2 (a b : E) | rng3 (a b c : E) | enum (e : E) | zip (a b : E)
end
instance : Inhabited E := ⟨.var 0⟩
mutual
inductive S where
  | asg (t : Tg) (e : E) | put (a b e : E) | setf (o : E) (f : Nm) (e : E)
  | aug (i : Nat) (o : Bop) (e : E) | augf (a : E) (f : Nm) (o : Bop) (e : E) | augi (a b : E) (o : Bop) (e : E)
  | swap (a b c d : E) (x y : E)
  | ifs (c : E) (a b : SL) | whl (c : E) (b : SL) | for_ (t : Tg) (s : Src) (b : SL)
  | ret (e : E) | retn | expr (e : E) | brk | cnt | pass | rais (c : Nat)
inductive SL where
  | nil | cons (s : S) (r : SL)
end
instance : Inhabited SL := ⟨.nil⟩

inductive Fl where | nx | brk | cnt | ret (w : W)
  deriving Inhabited
inductive RS where
  | go (f : Fl) (ρ : Env) (g : G) | exc (c : Nat) (ρ : Env) (g : G) | err
  deriving Inhabited
def RS.of {α : Type} (r : R α) (ρ : Env) (k : α → G → RS) : RS := match r with
  | .ok a g => k a g
  | .exc c g => .exc c ρ g
  | .err => .err
/-- behind a statement the rest -/
def RS.andThen (r : RS) (k : Env → G → RS) : RS := match r with
  | .go .nx ρ g => k ρ g
  | r => r

/-! ### walks -/
inductive Cur where
  /-- values that stay -/
  | vals (ws : List W)
  /-- a list's items as they stand; with their places; two lists' -/
  | live (i : Nat) | lenum (i : Nat) | lzip (i j : Nat)
/-- at turn j: none: not served; some none: the end -/
def Cur.at_ (c : Cur) (j : Nat) (g : G) : Option (Option W) := match c with
  | .vals ws => some ws[j]?
  | .live i => (lstOf (.ref i) g).map fun ws => ws[j]?
  | .lenum i => (lstOf (.ref i) g).map fun ws => ws[j]?.map fun w => .tup [.int j, w]
  | .lzip i k => match lstOf (.ref i) g, lstOf (.ref k) g with
    | some ws, some us => some (match ws[j]?, us[j]? with | some a, some b => some (.tup [a, b]) | _, _ => none)
    | _, _ => none
def setAll : List Nat → List W → Env → Option Env
  | [], [], ρ => some ρ
  | i :: r, w :: q, ρ => setAll r q (ρ.set i (some w))
  | _, _, _ => none
/-- the slots of a target, from a list too -/
def Tg.putS (t : Tg) (w : W) (ρ : Env) (g : G) : Option Env := match t with
  | .nm i => some (ρ.set i (some w))
  | .tp ts => match w with
    | .tup ws => setAll ts ws ρ
    | w => match lstOf w g with
      | some ws => setAll ts ws ρ
      | none => none
/-- a target is stored -/
def Tg.put (t : Tg) (w : W) (ρ : Env) : Option Env := match t with
  | .nm i => some (ρ.set i (some w))
  | .tp ts => match w with
    | .tup ws => setAll ts ws ρ
    | _ => none
def wipeE (ρ : Env) : List Nat → Env
  | [] => ρ
  | v :: vs => (wipeE ρ vs).set v none
/-- the items of a comprehension over values that stay -/
def compV (t : Tg) (c : Env → G → R Bool) (el : Env → G → R W) (ρ : Env) : List W → G → R (List W)
  | [], g => .ok [] g
  | w :: r, g => match t.put w ρ with
    | none => .err
    | some ρ' => (c ρ' g).nx.bind fun b g1 => match b with
      | false => compV t c el ρ r g1
      | true => (el ρ' g1).nx.bind fun x g2 => (compV t c el ρ r g2).bind fun xs g3 => .ok (x :: xs) g3
/-- .. over what may change: n turns at most, from turn j -/
def compL (t : Tg) (c : Env → G → R Bool) (el : Env → G → R W) (ρ : Env) (cur : Cur) : Nat → Nat → G → R (List W)
  | 0, _, _ => .err
  | n + 1, j, g => match cur.at_ j g with
    | none => .err
    | some none => .ok [] g
    | some (some w) => match t.put w ρ with
      | none => .err
      | some ρ' => (c ρ' g).nx.bind fun b g1 => match b with
        | false => compL t c el ρ cur n (j + 1) g1
        | true => (el ρ' g1).nx.bind fun x g2 => (compL t c el ρ cur n (j + 1) g2).bind fun xs g3 => .ok (x :: xs) g3
/-- .. of a dict comprehension: the entries as they are made -/
def dcV (t : Tg) (c : Env → G → R Bool) (k v : Env → G → R W) (ρ : Env) : List W → List (W × W) → G → R (List (W × W))
  | [], acc, g => .ok acc g
  | w :: r, acc, g => match t.put w ρ with
    | none => .err
    | some ρ' => (c ρ' g).nx.bind fun b g1 => match b with
      | false => dcV t c k v ρ r acc g1
      | true => (k ρ' g1).nx.bind fun x g2 => (v ρ' g2).nx.bind fun y g3 => if fits [] x then dcV t c k v ρ r (putD acc x y) g3 else .err
def dcL (t : Tg) (c : Env → G → R Bool) (k v : Env → G → R W) (ρ : Env) (cur : Cur) : Nat → Nat → List (W × W) → G → R (List (W × W))
  | 0, _, _, _ => .err
  | n + 1, j, acc, g => match cur.at_ j g with
    | none => .err
    | some none => .ok acc g
    | some (some w) => match t.put w ρ with
      | none => .err
      | some ρ' => (c ρ' g).nx.bind fun b g1 => match b with
        | false => dcL t c k v ρ cur n (j + 1) acc g1
        | true => (k ρ' g1).nx.bind fun x g2 => (v ρ' g2).nx.bind fun y g3 => if fits [] x then dcL t c k v ρ cur n (j + 1) (putD acc x y) g3 else .err
def forV (t : Tg) (b : Env → G → RS) : List W → Env → G → RS
  | [], ρ, g => .go .nx ρ g
  | w :: r, ρ, g => match t.put w ρ with
    | none => .err
    | some ρ' => match b ρ' g with
      | .go .nx ρ2 g2 | .go .cnt ρ2 g2 => forV t b r ρ2 g2
      | .go .brk ρ2 g2 => .go .nx ρ2 g2
      | r => r
def forL (t : Tg) (b : Env → G → RS) (cur : Cur) : Nat → Nat → Env → G → RS
  | 0, _, _, _ => .err
  | n + 1, j, ρ, g => match cur.at_ j g with
    | none => .err
    | some none => .go .nx ρ g
    | some (some w) => match t.put w ρ with
      | none => .err
      | some ρ' => match b ρ' g with
        | .go .nx ρ2 g2 | .go .cnt ρ2 g2 => forL t b cur n (j + 1) ρ2 g2
        | .go .brk ρ2 g2 => .go .nx ρ2 g2
        | r => r
def whl (c : Env → G → R Bool) (b : Env → G → RS) : Nat → Env → G → RS
  | 0, _, _ => .err
  | n + 1, ρ, g => RS.of (c ρ g) ρ fun k g1 => match k with
    | false => .go .nx ρ g1
    | true => match b ρ g1 with
      | .go .nx ρ2 g2 | .go .cnt ρ2 g2 => whl c b n ρ2 g2
      | .go .brk ρ2 g2 => .go .nx ρ2 g2
      | r => r

/-- the table of the text: classes (their __init__, methods by name) -/
structure Cl where
  init : Nat
  ms : List (Nm × Nat)
  deriving Inhabited
structure Fn where
  np : Nat
  nn : Nat
  body : SL
  deriving Inhabited
structure Tbl where
  fns : List Fn
  cls : List Cl
  deriving Inhabited
abbrev CallF := Nat → List W → G → R W
def findM : List (Nm × Nat) → Nm → Option Nat
  | [], _ => none
  | (a, b) :: r, m => if a = m then some b else findM r m
/-- turns of a walk or a while at most -/
def FUEL : Nat := lim

def M.runL (m : M) (i : Nat) (ws : List W) (g : G) : R W := match g[i]? with
  | some (.lst xs) => match m, ws with
    | .append, [y] => if xs.length < lim then .ok .non (g.set i (.lst (xs ++ [y]))) else .err
    | .extend, [.ref k] => match g[k]? with
      | some (.lst ys) => if xs.length + ys.length ≤ lim then .ok .non (g.set i (.lst (xs ++ ys))) else .err
      | _ => .err
    | .pop0, [] => match xs[xs.length - 1]? with
      | some y => .ok y (g.set i (.lst xs.dropLast))
      | none => .err
    | _, _ => .err
  | _ => .err
def M.runD (m : M) (i : Nat) (ws : List W) (g : G) : R W := match g[i]? with
  | some (.dct kvs) => match m, ws with
    | .get, [k, d] => if fits kvs k then .ok ((getD kvs k).getD d) g else .err
    | _, _ => .err
  | _ => .err

section
variable (T : Tbl) (call : CallF)
mutual
def ev : E → Env → G → R W
  | .cst w, _, g => .ok w g
  | .var i, ρ, g => match ρ[i]? with
    | some (some w) => .ok w g
    | _ => .err
  | .tup es, ρ, g => (evl es ρ g).bind fun ws g1 => .ok (.tup ws) g1
  | .lst es, ρ, g => (evl es ρ g).bind fun ws g1 => .ok (.ref g1.length) (g1 ++ [.lst ws])
  | .bop o a b, ρ, g => (ev a ρ g).bind fun x g1 => (ev b ρ g1).bind fun y g2 => o.run x y g2
  | .neg a, ρ, g => (ev a ρ g).bind fun x g1 => match x with
    | .int i => .ok (.int (-i)) g1
    | _ => .err
  | .not a, ρ, g => (ev a ρ g).bind fun x g1 => match x with
    | .bl b => .ok (.bl (!b)) g1
    | _ => .err
  | .cmp o a b, ρ, g => (ev a ρ g).bind fun x g1 => (ev b ρ g1).bind fun y g2 => R.of ((o.run x y g2).map W.bl) g2
  | .chain o o' a b c, ρ, g => (ev a ρ g).bind fun x g1 => (ev b ρ g1).bind fun y g2 => (R.of (o.run x y g2) g2).bind fun k g3 => match k with
    | false => .ok (.bl false) g3
    | true => (ev c ρ g3).bind fun z g4 => R.of ((o'.run y z g4).map W.bl) g4
  | .and a b, ρ, g => (ev a ρ g).bind fun x g1 => match x with
    | .bl true => ev b ρ g1
    | .bl false => .ok (.bl false) g1
    | _ => .err
  | .or a b, ρ, g => (ev a ρ g).bind fun x g1 => match x with
    | .bl true => .ok (.bl true) g1
    | .bl false => ev b ρ g1
    | _ => .err
  | .ife c a b, ρ, g => (tst c ρ g).bind fun k g1 => match k with
    | true => ev a ρ g1
    | false => ev b ρ g1
  | .idx a b, ρ, g => (ev a ρ g).bind fun x g1 => (ev b ρ g1).bind fun y g2 => match x, y with
    | .tup ws, .int i => R.of (atW ws i) g2
    | .fl ws, .int i => R.of (atW ws i) g2
    | .str s, .int i => if s.length ≤ lim then R.of ((atW s i).map fun c => W.str [c]) g2 else .err
    | .fd ks us, .str z => R.of (getFd ks us z) g2
    | .ref p, y => match g2[p]?, y with
      | some (.lst ws), .int i => R.of (atW ws i) g2
      | some (.dct kvs), k => if fits kvs k then R.of (getD kvs k) g2 else .err
      | some (.fz kvs), k => if fits kvs k then R.of (getD kvs k) g2 else .err
      | _, _ => .err
    | _, _ => .err
  | .slo a lo, ρ, g => (ev a ρ g).bind fun x g1 => (ev lo ρ g1).bind fun y g2 => match x, y with
    | .tup ws, .int i => .ok (.tup (cutW ws (some i) none)) g2
    | .str s, .int i => if s.length ≤ lim then .ok (.str (cutW s (some i) none)) g2 else .err
    | .ref p, .int i => match g2[p]? with
      | some (.lst ws) => .ok (.ref g2.length) (g2 ++ [.lst (cutW ws (some i) none)])
      | _ => .err
    | _, _ => .err
  | .shi a hi, ρ, g => (ev a ρ g).bind fun x g1 => (ev hi ρ g1).bind fun y g2 => match x, y with
    | .tup ws, .int i => .ok (.tup (cutW ws none (some i))) g2
    | .str s, .int i => if s.length ≤ lim then .ok (.str (cutW s none (some i))) g2 else .err
    | .ref p, .int i => match g2[p]? with
      | some (.lst ws) => .ok (.ref g2.length) (g2 ++ [.lst (cutW ws none (some i))])
      | _ => .err
    | _, _ => .err
  | .slh a lo hi, ρ, g => (ev a ρ g).bind fun x g1 => (ev lo ρ g1).bind fun y g2 => match y with
    | .int i => (ev hi ρ g2).bind fun z g3 => match x, z with
      | .tup ws, .int j => .ok (.tup (cutW ws (some i) (some j))) g3
      | .ref p, .int j => match g3[p]? with
        | some (.lst ws) => .ok (.ref g3.length) (g3 ++ [.lst (cutW ws (some i) (some j))])
        | _ => .err
      | _, _ => .err
    | _ => .err
  | .rev a, ρ, g => (ev a ρ g).bind fun x g1 => match x with
    | .ref p => match g1[p]? with
      | some (.lst ws) => .ok (.ref g1.length) (g1 ++ [.lst ws.reverse])
      | _ => .err
    | _ => .err
  | .fld a f, ρ, g => (ev a ρ g).bind fun x g1 => match x with
    | .ref p => match g1[p]? with
      | some (.ins _ fs) => R.of (getF fs f) g1
      | _ => .err
    | _ => .err
  | .call f es, ρ, g => (evl es ρ g).bind fun ws g1 => call f ws g1
  | .meth o m es, ρ, g => (ev o ρ g).bind fun x g1 => match x with
    | .ref p => match g1[p]? with
      | some (.ins c fs) => match T.cls[c]? with
        | some cl => match findM cl.ms m, getF fs m with
          | some f, none => (evl es ρ g1).bind fun ws g2 => call f (.ref p :: ws) g2
          | _, _ => .err
        | none => .err
      | _ => .err
    | _ => .err
  | .new c es, ρ, g => (evl es ρ g).bind fun ws g1 => match T.cls[c]? with
    | some cl => (call cl.init (.ref g1.length :: ws) (g1 ++ [.ins c []])).bind fun w g2 => match w with
      | .non => .ok (.ref g1.length) g2
      | _ => .err
    | none => .err
  | .b1 b a, ρ, g => (ev a ρ g).bind fun x g1 => R.of (b.run x g1) g1
  | .bs b a, ρ, g => (its a ρ g).bind fun ws g1 => b.run ws g1
  | .bt b a, ρ, g => (ev a ρ g).bind fun x g1 => (R.of (seqOf x g1) g1).bind fun ws g2 => match b with
    | .tuple => .ok (.tup ws) g2
    | .list => .ok (.ref g2.length) (g2 ++ [.lst ws])
    | _ => .err
  | .max2 a b, ρ, g => (ev a ρ g).bind fun x g1 => (ev b ρ g1).bind fun y g2 => match x, y with
    | .int i, .int j => .ok (.int (if j > i then j else i)) g2
    | _, _ => .err
  | .min2 a b, ρ, g => (ev a ρ g).bind fun x g1 => (ev b ρ g1).bind fun y g2 => match x, y with
    | .int i, .int j => .ok (.int (if j < i then j else i)) g2
    | _, _ => .err
  | .isi a t, ρ, g => (ev a ρ g).bind fun x g1 => R.of ((isTy x t g1).map W.bl) g1
  | .comp vs t s c el, ρ, g => (src s ρ g).bind fun cur g1 => ((match cur with
      | .vals ws => if ws.length ≤ lim then compV t (tst c) (ev el) (wipeE ρ vs) ws g1 else .err
      | cur => compL t (tst c) (ev el) (wipeE ρ vs) cur FUEL 0 g1) : R (List W)).bind fun ws g2 => .ok (.ref g2.length) (g2 ++ [.lst ws])
  | .dcomp vs t s c k v, ρ, g => (src s ρ g).bind fun cur g1 => ((match cur with
      | .vals ws => if ws.length ≤ lim then dcV t (tst c) (ev k) (ev v) (wipeE ρ vs) ws [] g1 else .err
      | cur => dcL t (tst c) (ev k) (ev v) (wipeE ρ vs) cur FUEL 0 [] g1) : R (List (W × W))).bind fun kvs g2 => .ok (.ref g2.length) (g2 ++ [.dct kvs])
  | .srt a, ρ, g => (ev a ρ g).bind fun x g1 => match kvsOf x g1 with
    | some kvs => BS.sorted.run (kvs.map (·.1)) g1
    | none => (R.of (lstOf x g1) g1).bind fun ws g2 => BS.sorted.run ws g2
  | .dnew es, ρ, g => (evl es ρ g).bind fun ws g1 => match pairW ws with
    | some ps => if ps.length ≤ 15 ∧ (ps.all fun kv => fits [] kv.1) = true then .ok (.ref g1.length) (g1 ++ [.dct (ps.foldl (fun acc kv => putD acc kv.1 kv.2) [])]) else .err
    | none => .err
  | .lset a, ρ, g => (ev a ρ g).bind fun x g1 => match x with
    | .ref i => match g1[i]? with
      | some (.lst ws) => R.of ((asStrs ws).bind fun l => if l.length ≤ 1000 then some (W.int (dcN l.reverse : Nat)) else none) g1
      | _ => .err
    | _ => .err
  | .mth m o es, ρ, g => (ev o ρ g).bind fun x g1 => match x with
    | .ref i => match g1[i]? with
      | some (.lst _) => (evl es ρ g1).bind fun ws g2 => m.runL i ws g2
      | some (.dct _) => if m = .get then (evl es ρ g1).bind fun ws g2 => m.runD i ws g2 else .err
      | _ => .err
    | _ => .err
/-- as a test -/
def tst : E → Env → G → R Bool
  | .and a b, ρ, g => (tst a ρ g).bind fun k g1 => match k with
    | true => tst b ρ g1
    | false => .ok false g1
  | .or a b, ρ, g => (tst a ρ g).bind fun k g1 => match k with
    | true => .ok true g1
    | false => tst b ρ g1
  | .not a, ρ, g => (tst a ρ g).bind fun k g1 => .ok (!k) g1
  | e, ρ, g => (ev e ρ g).bind fun x g1 => R.of (truthW x g1) g1
/-- the items of a list; one that is written here is not laid -/
def its : E → Env → G → R (List W)
  | .comp vs t s c el, ρ, g => (src s ρ g).bind fun cur g1 => match cur with
      | .vals ws => if ws.length ≤ lim then compV t (tst c) (ev el) (wipeE ρ vs) ws g1 else .err
      | cur => compL t (tst c) (ev el) (wipeE ρ vs) cur FUEL 0 g1
  | .lst es, ρ, g => evl es ρ g
  | e, ρ, g => (ev e ρ g).bind fun x g1 => R.of (lstOf x g1) g1
def evl : EL → Env → G → R (List W)
  | .nil, _, g => .ok [] g
  | .cons e r, ρ, g => (ev e ρ g).bind fun x g1 => (evl r ρ g1).bind fun xs g2 => .ok (x :: xs) g2
def src : Src → Env → G → R Cur
  | .seq e, ρ, g => (ev e ρ g).bind fun x g1 => match x with
    | .tup ws => .ok (.vals ws) g1
    | .str s => .ok (.vals (s.map fun c => .str [c])) g1
    | .fl ws => .ok (.vals ws) g1
    | .ref p => match g1[p]? with
      | some (.lst _) => .ok (.live p) g1
      | some (.dct kvs) => .ok (.vals (kvs.map (·.1))) (g1.set p (.fz kvs))
      | some (.fz kvs) => .ok (.vals (kvs.map (·.1))) g1
      | _ => .err
    | _ => .err
  | .rng1 a, ρ, g => (ev a ρ g).bind fun x g1 => match x with
    | .int n => if n ≤ lim ∧ -lim ≤ n then .ok (.vals ((List.range n.toNat).map fun (k : Nat) => W.int k)) g1 else .err
    | _ => .err
  | .rng2 a b, ρ, g => (ev a ρ g).bind fun x g1 => (ev b ρ g1).bind fun y g2 => match x, y with
    | .int m, .int n => if n ≤ lim ∧ -lim ≤ n ∧ m ≤ lim ∧ -lim ≤ m then .ok (.vals ((List.range (n - m).toNat).map fun (k : Nat) => W.int (m + k))) g2 else .err
    | _, _ => .err
  | .rng3 _ _ _, _, _ => .err
  | .enum e, ρ, g => (ev e ρ g).bind fun x g1 => match x with
    | .tup ws => .ok (.vals (ws.mapIdx fun (i : Nat) w => W.tup [.int i, w])) g1
    | .ref p => match g1[p]? with
      | some (.lst _) => .ok (.lenum p) g1
      | _ => .err
    | _ => .err
  | .zip a b, ρ, g => (ev a ρ g).bind fun x g1 => (ev b ρ g1).bind fun y g2 => match x, y with
    | .ref p, .ref q => match g2[p]?, g2[q]? with
      | some (.lst _), some (.lst _) => .ok (.lzip p q) g2
      | _, _ => .err
    | _, _ => .err
end
/-- a[b] = w, a a list -/
def putL (a b : E) (w : W) (ρ : Env) (g : G) (k : G → RS) : RS := RS.of (ev T call a ρ g) ρ fun o g1 => RS.of (ev T call b ρ g1) ρ fun i g2 => match o, i with
  | .ref p, .int i => match g2[p]? with
    | some (.lst ws) => match ixW ws.length i with
      | some j => k (g2.set p (.lst (ws.set j w)))
      | none => .err
    | _ => .err
  | _, _ => .err
mutual
def ex : S → Env → G → RS
  | .asg t e, ρ, g => RS.of (ev T call e ρ g) ρ fun w g1 => match t.putS w ρ g1 with
    | some ρ' => .go .nx ρ' g1
    | none => .err
  | .put a b e, ρ, g => RS.of (ev T call e ρ g) ρ fun w g1 => RS.of (ev T call a ρ g1) ρ fun x g2 => RS.of (ev T call b ρ g2) ρ fun y g3 => match x with
    | .ref p => match g3[p]?, y with
      | some (.lst ws), .int i => match ixW ws.length i with
        | some j => .go .nx ρ (g3.set p (.lst (ws.set j w)))
        | none => .err
      | some (.dct kvs), k => if fits kvs k ∧ kvs.length < lim then .go .nx ρ (g3.set p (.dct (putD kvs k w))) else .err
      | _, _ => .err
    | _ => .err
  | .setf o f e, ρ, g => RS.of (ev T call e ρ g) ρ fun w g1 => RS.of (ev T call o ρ g1) ρ fun x g2 => match x with
    | .ref p => match g2[p]? with
      | some (.ins c fs) => if fs.length < 900 then .go .nx ρ (g2.set p (.ins c (putFW f w fs))) else .err
      | _ => .err
    | _ => .err
  | .aug i o e, ρ, g => match ρ[i]? with
    | some (some x) => RS.of (ev T call e ρ g) ρ fun y g1 => match x, y with
      | .int a, .int b => match o with
        | .add => .go .nx (ρ.set i (some (.int (a + b)))) g1
        | .sub => .go .nx (ρ.set i (some (.int (a - b)))) g1
        | _ => .err
      | _, _ => .err
    | _ => .err
  | .augf a f o e, ρ, g => RS.of (ev T call a ρ g) ρ fun x g1 => match x with
    | .ref p => match g1[p]? with
      | some (.ins c0 fs) => match getF fs f with
        | some u => RS.of (ev T call e ρ g1) ρ fun y g2 => match u, y, g2[p]? with
          | .int i, .int j, some (.ins c fs2) => match o with
            | .add => if c = c0 ∧ fs2.length < 900 then .go .nx ρ (g2.set p (.ins c (putFW f (.int (i + j)) fs2))) else .err
            | .sub => if c = c0 ∧ fs2.length < 900 then .go .nx ρ (g2.set p (.ins c (putFW f (.int (i - j)) fs2))) else .err
            | _ => .err
          | _, _, _ => .err
        | none => .err
      | _ => .err
    | _ => .err
  | .augi _ _ _ _, _, _ => .err
  | .swap a b c d x y, ρ, g => RS.of (evl T call (.cons x (.cons y .nil)) ρ g) ρ fun ws g1 => match ws with
    | [w1, w2] => putL T call a b w1 ρ g1 fun g2 => putL T call c d w2 ρ g2 fun g3 => .go .nx ρ g3
    | _ => .err
  | .ifs c a b, ρ, g => RS.of (tst T call c ρ g) ρ fun k g1 => match k with
    | true => exs a ρ g1
    | false => exs b ρ g1
  | .whl c b, ρ, g => Dl.whl (tst T call c) (exs b) FUEL ρ g
  | .for_ t s b, ρ, g => RS.of (src T call s ρ g) ρ fun cur g1 => match cur with
    | .vals ws => forV t (exs b) ws ρ g1
    | cur => forL t (exs b) cur FUEL 0 ρ g1
  | .ret e, ρ, g => RS.of (ev T call e ρ g) ρ fun w g1 => .go (.ret w) ρ g1
  | .retn, ρ, g => .go (.ret .non) ρ g
  | .expr e, ρ, g => RS.of (ev T call e ρ g) ρ fun _ g1 => .go .nx ρ g1
  | .brk, ρ, g => .go .brk ρ g
  | .cnt, ρ, g => .go .cnt ρ g
  | .pass, ρ, g => .go .nx ρ g
  | .rais c, ρ, g => .exc c ρ g
def exs : SL → Env → G → RS
  | .nil, ρ, g => .go .nx ρ g
  | .cons s r, ρ, g => (ex s ρ g).andThen fun ρ1 g1 => exs r ρ1 g1
end
end
/-- what a call leaves: nothing new, where nothing of the old hangs on what is new, and it hands back nothing of its own -/
def gc (g : G) (w : W) (g' : G) : G := if below g.length w && gpre g.length g g' then g'.take g.length else g'
def startE (n : Nat) (ws : List W) : Env := ws.map some ++ List.replicate (n - ws.length) none
def Fn.run (T : Tbl) (call : CallF) (f : Fn) (ws : List W) (g : G) : R W :=
  if ws.length = f.np then match exs T call f.body (startE f.nn ws) g with
    | .go (.ret w) _ g' => .ok w (gc g w g')
    | .go .nx _ g' => .ok .non (gc g .non g')
    | .exc c _ g' => .exc c (gc g .non g')
    | _ => .err
  else .err
/-- calls, k deep at most -/
def callN (T : Tbl) : Nat → CallF
  | 0, _, _, _ => .err
  | k + 1, f, ws, g => match T.fns[f]? with
    | some fn => fn.run T (callN T k) ws g
    | none => .err
end Dl

/-! DlB: how the interpreter's values and heap lie in the layer's; its readings. -/
namespace Dl
open PySem L2

/-- the written part, the addresses of the classes and of the exceptions' classes -/
structure Px where
  K : PySem.W.Frag
  ca : Nat → Addr
  xa : Nat → Addr
  nc : Nat
  /-- a dict of the module's top, keys texts -/
  kd : Addr → Prop
/-- a list that is read alone -/
def SqF (K : PySem.W.Frag) (H : Hp) (a : Addr) (xs : List V) : Prop :=
  (∃ o, H a = some (.frz o (.lst xs))) ∨
    ∃ (o : Obj) (its : Array Value) (n : Nat), K.lookup a = some o ∧ o.cls = .type "list" ∧ o.dict = none ∧ o.data = .seq its n ∧ its.size ≤ sizeLine ∧ Vals xs its.toList
theorem SqF.sq {K : PySem.W.Frag} {H : Hp} {a : Addr} {xs : List V} (h : SqF K H a xs) : SqL K H a xs := by
  rcases h with h | h
  · exact .inl (.inr h)
  · exact .inr h
abbrev strV (s : List Nat) : Str := ⟨s.toArray⟩
mutual
def RepV (p : Px) (α : List Addr) (H : Hp) : W → V → Prop
  | .non, v => v = .non
  | .bl b, v => v = .bl b
  | .int i, v => v = .int i
  | .str s, v => v = .str (strV s)
  | .tup ws, v => ∃ a vs, v = .ref a ∧ SqT p.K H a vs ∧ RepVs p α H ws vs
  | .ref i, v => ∃ a, v = .ref a ∧ α[i]? = some a
  | .exn _, v => ∃ a, v = .ref a
  | .fl ws, v => ∃ a vs, v = .ref a ∧ SqF p.K H a vs ∧ RepVs p α H ws vs
  | .fd ks ws, v => ∃ a us vs, v = .ref a ∧ p.kd a ∧ Vals vs us ∧ us.length = ks.length ∧ (∀ z : List Nat, PySem.W.nsIn p.K a (strV z) = some ((ks.zip us).lookup z)) ∧ RepVs p α H ws vs
def RepVs (p : Px) (α : List Addr) (H : Hp) : List W → List V → Prop
  | [], vs => vs = []
  | w :: r, vs => ∃ v q, vs = v :: q ∧ RepV p α H w v ∧ RepVs p α H r q
end
/-- tuples stay -/
structure Keep (H H' : Hp) : Prop where
  t : ∀ a xs, H a = some (.tup xs) → H' a = some (.tup xs)
  f : ∀ a o u, H a = some (.frz o u) → H' a = some (.frz o u)
theorem Keep.refl (H : Hp) : Keep H H := ⟨fun _ _ e => e, fun _ _ _ e => e⟩
theorem Keep.trans {H H1 H2 : Hp} (a : Keep H H1) (b : Keep H1 H2) : Keep H H2 := ⟨fun c xs e => b.t c xs (a.t c xs e), fun c o u e => b.f c o u (a.f c o u e)⟩
theorem Keep.sq {K : PySem.W.Frag} {H H' : Hp} (k : Keep H H') {a : Addr} {xs : List V} (h : SqT K H a xs) : SqT K H' a xs := by
  rcases h with (h | ⟨o, h⟩) | h
  · exact .inl (.inl (k.t _ _ h))
  · exact .inl (.inr ⟨o, k.f _ _ _ h⟩)
  · exact .inr h
theorem SqF.mono {K : PySem.W.Frag} {H H' : Hp} {a : Addr} {xs : List V} (k : Keep H H') (h : SqF K H a xs) : SqF K H' a xs := by
  rcases h with ⟨o, h⟩ | h
  · exact .inl ⟨o, k.f _ _ _ h⟩
  · exact .inr h
theorem Keep.new {H : Hp} {q : Addr} {o : HO} (h : H q = none) : Keep H (upd H q o) :=
  ⟨fun a xs e => by rw [upd_ne (ne_of_none e h)]; exact e, fun a o u e => by rw [upd_ne (ne_of_none e h)]; exact e⟩
theorem Keep.write {H : Hp} {q : Addr} {o : HO} (m : Mut (H q)) : Keep H (upd H q o) :=
  ⟨fun a xs e => by
    rw [upd_ne]
    · exact e
    · rintro rfl; rw [e] at m; exact m, fun a o u e => by
    rw [upd_ne]
    · exact e
    · rintro rfl; rw [e] at m; exact m⟩
abbrev Pre (α α' : List Addr) : Prop := ∃ m, α' = α ++ m
theorem Pre.refl (α : List Addr) : Pre α α := ⟨[], by simp⟩
theorem Pre.trans {a b c : List Addr} (h : Pre a b) (k : Pre b c) : Pre a c := by
  obtain ⟨m, rfl⟩ := h
  obtain ⟨n, rfl⟩ := k
  exact ⟨m ++ n, by simp⟩
theorem Pre.get {a b : List Addr} (h : Pre a b) {i : Nat} {x : Addr} (e : a[i]? = some x) : b[i]? = some x := by
  obtain ⟨m, rfl⟩ := h
  rw [List.getElem?_append_left (List.getElem?_eq_some_iff.mp e).1]
  exact e
mutual
theorem RepV.mono0 {p : Px} {α α' : List Addr} {H H' : Hp} (h1 : Pre α α') (h2 : Keep H H') : ∀ {w : W} {v : V}, RepV p α H w v → RepV p α' H' w v
  | .non, _, h => by simpa only [RepV] using h
  | .bl _, _, h => by simpa only [RepV] using h
  | .int _, _, h => by simpa only [RepV] using h
  | .str _, _, h => by simpa only [RepV] using h
  | .tup ws, _, h => by
    simp only [RepV] at h ⊢
    obtain ⟨a, vs, e, s, r⟩ := h
    exact ⟨a, vs, e, h2.sq s, RepVs.mono0 h1 h2 r⟩
  | .ref _, _, h => by
    simp only [RepV] at h ⊢
    obtain ⟨a, e, s⟩ := h
    exact ⟨a, e, h1.get s⟩
  | .exn _, _, h => by simpa only [RepV] using h
  | .fl ws, _, h => by
    simp only [RepV] at h ⊢
    obtain ⟨a, vs, e, s, r⟩ := h
    exact ⟨a, vs, e, s.mono h2, RepVs.mono0 h1 h2 r⟩
  | .fd ks ws, _, h => by
    simp only [RepV] at h ⊢
    obtain ⟨a, us, vs, e, s, k, l, m, r⟩ := h
    exact ⟨a, us, vs, e, s, k, l, m, RepVs.mono0 h1 h2 r⟩
theorem RepVs.mono0 {p : Px} {α α' : List Addr} {H H' : Hp} (h1 : Pre α α') (h2 : Keep H H') : ∀ {ws : List W} {vs : List V}, RepVs p α H ws vs → RepVs p α' H' ws vs
  | [], _, h => by simpa only [RepVs] using h
  | w :: r, _, h => by
    simp only [RepVs] at h ⊢
    obtain ⟨v, q, e, a, b⟩ := h
    exact ⟨v, q, e, RepV.mono0 h1 h2 a, RepVs.mono0 h1 h2 b⟩
end
section
variable {p : Px} {α : List Addr} {H : Hp}
theorem RepVs.nil : RepVs p α H [] [] := by simp only [RepVs]
theorem RepVs.cons {w : W} {v : V} {ws : List W} {vs : List V} (a : RepV p α H w v) (b : RepVs p α H ws vs) : RepVs p α H (w :: ws) (v :: vs) := by
  simp only [RepVs]; exact ⟨v, vs, rfl, a, b⟩
theorem RepVs.nil' {vs : List V} (h : RepVs p α H [] vs) : vs = [] := by simpa only [RepVs] using h
theorem RepVs.cons' {w : W} {ws : List W} {vs : List V} (h : RepVs p α H (w :: ws) vs) : ∃ v q, vs = v :: q ∧ RepV p α H w v ∧ RepVs p α H ws q := by simpa only [RepVs] using h
theorem RepVs.length : ∀ {ws : List W} {vs : List V}, RepVs p α H ws vs → ws.length = vs.length
  | [], _, h => by rw [h.nil']; rfl
  | _ :: _, _, h => by
    obtain ⟨v, q, e, _, b⟩ := h.cons'
    rw [e]; simp [RepVs.length b]
theorem RepVs.append : ∀ {ws us : List W} {vs ys : List V}, RepVs p α H ws vs → RepVs p α H us ys → RepVs p α H (ws ++ us) (vs ++ ys)
  | [], _, _, _, h, k => by rw [h.nil']; exact k
  | _ :: _, _, _, _, h, k => by
    obtain ⟨v, q, e, a, b⟩ := h.cons'
    rw [e]; exact .cons a (RepVs.append b k)
theorem RepVs.get : ∀ {ws : List W} {vs : List V} {i : Nat} {w : W}, RepVs p α H ws vs → ws[i]? = some w → ∃ v, vs[i]? = some v ∧ RepV p α H w v
  | [], _, _, _, _, k => by simp at k
  | _ :: _, _, 0, _, h, k => by
    obtain ⟨v, q, e, a, b⟩ := h.cons'
    simp at k; subst k; exact ⟨v, by rw [e]; rfl, a⟩
  | _ :: _, _, i + 1, _, h, k => by
    obtain ⟨v, q, e, a, b⟩ := h.cons'
    obtain ⟨x, e1, e2⟩ := RepVs.get (i := i) b (by simpa using k)
    exact ⟨x, by rw [e]; simpa using e1, e2⟩
theorem RepVs.getN {ws : List W} {vs : List V} {i : Nat} (h : RepVs p α H ws vs) (e : ws[i]? = none) : vs[i]? = none := by
  have := h.length
  have := List.getElem?_eq_none_iff.mp e
  exact List.getElem?_eq_none_iff.mpr (by omega)
theorem RepVs.take : ∀ {ws : List W} {vs : List V} (n : Nat), RepVs p α H ws vs → RepVs p α H (ws.take n) (vs.take n)
  | _, _, 0, _ => by simp only [List.take_zero]; exact .nil
  | [], _, n + 1, h => by rw [h.nil']; exact .nil
  | _ :: _, _, n + 1, h => by
    obtain ⟨v, q, e, a, b⟩ := h.cons'
    rw [e]; exact .cons a (RepVs.take n b)
theorem RepVs.drop : ∀ {ws : List W} {vs : List V} (n : Nat), RepVs p α H ws vs → RepVs p α H (ws.drop n) (vs.drop n)
  | _, _, 0, h => h
  | [], _, n + 1, h => by rw [h.nil']; exact .nil
  | _ :: _, _, n + 1, h => by
    obtain ⟨v, q, e, a, b⟩ := h.cons'
    rw [e]; exact RepVs.drop n b
theorem RepVs.set {w : W} {v : V} (r : RepV p α H w v) : ∀ {ws : List W} {vs : List V} (n : Nat), RepVs p α H ws vs → RepVs p α H (ws.set n w) (vs.set n v)
  | [], _, _, h => by rw [h.nil']; exact .nil
  | _ :: _, _, 0, h => by
    obtain ⟨v, q, e, a, b⟩ := h.cons'
    rw [e]; exact .cons r b
  | _ :: _, _, n + 1, h => by
    obtain ⟨v, q, e, a, b⟩ := h.cons'
    rw [e]; exact .cons a (RepVs.set r n b)
theorem RepVs.rev {ws : List W} {vs : List V} (h : RepVs p α H ws vs) : RepVs p α H ws.reverse vs.reverse := by
  induction ws generalizing vs with
  | nil => rw [h.nil']; exact .nil
  | cons w r ih =>
    obtain ⟨v, q, e, a, b⟩ := h.cons'
    rw [e]; simp only [List.reverse_cons]; exact (ih b).append (.cons a .nil)
theorem RepVs.rep {ws : List W} {vs : List V} (h : RepVs p α H ws vs) : ∀ k : Nat, RepVs p α H (List.replicate k ws).flatten (List.replicate k vs).flatten
  | 0 => .nil
  | k + 1 => by
    simp only [List.replicate_succ, List.flatten_cons]
    exact h.append (RepVs.rep h k)
theorem RepVs.dropLast {ws : List W} {vs : List V} (h : RepVs p α H ws vs) : RepVs p α H ws.dropLast vs.dropLast := by
  rw [List.dropLast_eq_take, List.dropLast_eq_take, h.length]; exact h.take _
end

/-! ### objects -/
abbrev nmS (f : Nm) : Str := ⟨f.toArray⟩
def RepFs (p : Px) (α : List Addr) (H : Hp) : List (Nm × W) → List (Str × V) → Prop
  | [], fs => fs = []
  | (a, w) :: r, fs => ∃ v q, fs = (nmS a, v) :: q ∧ RepV p α H w v ∧ RepFs p α H r q
/-- keys -/
def keyK : W → Option Key
  | .int i => some (.inl i)
  | .str s => some (.inr (strV s))
  | _ => none
def RepKV (p : Px) (α : List Addr) (H : Hp) : List (W × W) → List (Key × V) → Prop
  | [], fs => fs = []
  | (a, w) :: r, fs => ∃ k v q, fs = (k, v) :: q ∧ keyK a = some k ∧ RepV p α H w v ∧ RepKV p α H r q
def RepO (p : Px) (α : List Addr) (H : Hp) (a : Addr) : Ob → Prop
  | .lst ws => ∃ vs, H a = some (.lst vs) ∧ RepVs p α H ws vs
  | .dct kvs => ∃ kvs', H a = some (.dK kvs') ∧ RepKV p α H kvs kvs'
  | .fz kvs => ∃ o kvs', H a = some (.frz o (.dK kvs')) ∧ RepKV p α H kvs kvs'
  | .set _ => False
  | .ins c fs => ∃ dx fs', H a = some (.ins (p.ca c) dx fs') ∧ c < p.nc ∧ RepFs p α H fs fs'
theorem RepFs.mono {p : Px} {α α' : List Addr} {H H' : Hp} (h1 : Pre α α') (h2 : Keep H H') : ∀ {ws : List (Nm × W)} {vs : List (Str × V)}, RepFs p α H ws vs → RepFs p α' H' ws vs
  | [], _, h => h
  | (_, _) :: _, _, ⟨v, q, e, a, b⟩ => ⟨v, q, e, a.mono0 h1 h2, RepFs.mono h1 h2 b⟩
theorem RepKV.mono {p : Px} {α α' : List Addr} {H H' : Hp} (h1 : Pre α α') (h2 : Keep H H') : ∀ {ws : List (W × W)} {vs : List (Key × V)}, RepKV p α H ws vs → RepKV p α' H' ws vs
  | [], _, h => h
  | (_, _) :: _, _, ⟨k, v, q, e, x, a, b⟩ => ⟨k, v, q, e, x, a.mono0 h1 h2, RepKV.mono h1 h2 b⟩
/-- where the object itself stays -/
theorem RepO.mono {p : Px} {α α' : List Addr} {H H' : Hp} {a : Addr} {o : Ob} (h1 : Pre α α') (h2 : Keep H H') (h : RepO p α H a o) (e : H' a = H a) : RepO p α' H' a o := by
  cases o with
  | lst ws => obtain ⟨vs, x, r⟩ := h; exact ⟨vs, by rw [e]; exact x, r.mono0 h1 h2⟩
  | dct kvs => obtain ⟨vs, x, r⟩ := h; exact ⟨vs, by rw [e]; exact x, r.mono h1 h2⟩
  | fz kvs => obtain ⟨od, vs, x, r⟩ := h; exact ⟨od, vs, by rw [e]; exact x, r.mono h1 h2⟩
  | set _ => exact h
  | ins c fs => obtain ⟨dx, vs, x, n, r⟩ := h; exact ⟨dx, vs, by rw [e]; exact x, n, r.mono h1 h2⟩
theorem RepO.mut {p : Px} {α : List Addr} {H : Hp} {a : Addr} {o : Ob} (h : RepO p α H a o) (nf : ∀ k, o ≠ .fz k) : Mut (H a) := by
  cases o with
  | lst ws => obtain ⟨vs, x, r⟩ := h; rw [x]; trivial
  | dct kvs => obtain ⟨vs, x, r⟩ := h; rw [x]; trivial
  | fz kvs => exact absurd rfl (nf kvs)
  | set _ => exact h.elim
  | ins c fs => obtain ⟨dx, vs, x, r⟩ := h; rw [x]; trivial
theorem RepO.there {p : Px} {α : List Addr} {H : Hp} {a : Addr} {o : Ob} (h : RepO p α H a o) : ∃ u, H a = some u ∧ (Mut (some u) ∨ ∃ od v, u = .frz od v) := by
  cases o with
  | lst ws => obtain ⟨vs, x, r⟩ := h; exact ⟨_, x, .inl trivial⟩
  | dct kvs => obtain ⟨vs, x, r⟩ := h; exact ⟨_, x, .inl trivial⟩
  | fz kvs => obtain ⟨od, vs, x, r⟩ := h; exact ⟨_, x, .inr ⟨od, _, rfl⟩⟩
  | set _ => exact h.elim
  | ins c fs => obtain ⟨dx, vs, x, r⟩ := h; exact ⟨_, x, .inl trivial⟩

structure Sim (p : Px) (α : List Addr) (g : G) (H : Hp) : Prop where
  len : α.length = g.length
  ob : ∀ (i : Nat) (o : Ob) (a : Addr), g[i]? = some o → α[i]? = some a → RepO p α H a o
  nd : α.Nodup
theorem Sim.at_ {p : Px} {α : List Addr} {g : G} {H : Hp} (s : Sim p α g H) {i : Nat} {o : Ob} (e : g[i]? = some o) : ∃ a, α[i]? = some a ∧ RepO p α H a o := by
  have h := (List.getElem?_eq_some_iff.mp e).1
  have h2 : i < α.length := by rw [s.len]; exact h
  exact ⟨α[i], by simp [h2], s.ob i o _ e (by simp [h2])⟩
theorem Sim.trk {p : Px} {α : List Addr} {g : G} {H : Hp} (s : Sim p α g H) {a : Addr} (h : a ∈ α) : ∃ u, H a = some u := by
  obtain ⟨i, hi⟩ := List.mem_iff_getElem?.mp h
  have : i < g.length := by rw [← s.len]; exact (List.getElem?_eq_some_iff.mp hi).1
  obtain ⟨u, hu, _⟩ := (s.ob i g[i] a (by simp [this]) hi).there
  exact ⟨u, hu⟩
theorem Sim.ix {p : Px} {α : List Addr} {g : G} {H : Hp} (s : Sim p α g H) {i j : Nat} {a : Addr} (e : α[i]? = some a) (f : α[j]? = some a) : i = j :=
  (List.getElem?_inj (List.getElem?_eq_some_iff.mp e).1 s.nd).mp (e.trans f.symm)
/-- the heap beyond grows, tuples stay -/
theorem Sim.mono {p : Px} {α : List Addr} {g : G} {H H' : Hp} (s : Sim p α g H) (k : Keep H H') (h : ∀ a u, H a = some u → Mut (some u) → a ∈ α → H' a = H a) : Sim p α g H' :=
  ⟨s.len, fun i o a e1 e2 => (s.ob i o a e1 e2).mono (.refl _) k (by
    obtain ⟨u, hu, mu⟩ := (s.ob i o a e1 e2).there
    rcases mu with mu | ⟨od, v, rfl⟩
    · exact h a u hu mu (List.mem_of_getElem? e2)
    · rw [hu]; exact k.f _ _ _ hu), s.nd⟩
/-- a new object that we don't track -/
theorem Sim.junk {p : Px} {α : List Addr} {g : G} {H : Hp} {q : Addr} {u : HO} (s : Sim p α g H) (h : H q = none) : Sim p α g (upd H q u) :=
  s.mono (.new h) fun a v e _ _ => by rw [upd_ne (ne_of_none e h)]
theorem Sim.new {p : Px} {α : List Addr} {g : G} {H : Hp} {q : Addr} {u : HO} {o : Ob} (s : Sim p α g H) (h : H q = none) (r : RepO p (α ++ [q]) (upd H q u) q o) : Sim p (α ++ [q]) (g ++ [o]) (upd H q u) := by
  have lt : ∀ {i : Nat} {o' : Ob} {a : Addr}, (g ++ [o])[i]? = some o' → (α ++ [q])[i]? = some a → (g[i]? = some o' ∧ α[i]? = some a) ∨ (i = g.length ∧ o' = o ∧ a = q) := by
    intro i o' a e1 e2
    by_cases hi : i < g.length
    · rw [List.getElem?_append_left hi] at e1
      rw [List.getElem?_append_left (by rw [s.len]; exact hi)] at e2
      exact .inl ⟨e1, e2⟩
    · have : i = g.length := by
        have := (List.getElem?_eq_some_iff.mp e1).1
        simp at this
        omega
      subst this
      rw [List.getElem?_append_right (Nat.le_refl _)] at e1
      rw [← s.len, List.getElem?_append_right (Nat.le_refl _)] at e2
      simp at e1 e2
      exact .inr ⟨rfl, e1.symm, e2.symm⟩
  refine ⟨by simp [s.len], fun i o' a e1 e2 => ?_, ?_⟩
  · rcases lt e1 e2 with ⟨x, y⟩ | ⟨x, y, z⟩
    · refine (s.ob i o' a x y).mono ⟨[q], rfl⟩ (.new h) ?_
      obtain ⟨v, hv, _⟩ := (s.ob i o' a x y).there
      rw [upd_ne (ne_of_none hv h)]
    · subst y z; exact r
  · rw [List.nodup_append]
    refine ⟨s.nd, by simp, fun a ha b hb => ?_⟩
    have : b = q := by simpa using hb
    subst this
    obtain ⟨v, hv⟩ := s.trk ha
    exact ne_of_none hv h
/-- an object is written -/
theorem Sim.write {p : Px} {α : List Addr} {g : G} {H : Hp} {i : Nat} {a : Addr} {u : HO} {o o' : Ob} (s : Sim p α g H) (e : g[i]? = some o) (ea : α[i]? = some a) (r : RepO p α (upd H a u) a o') (nf : ∀ k, o ≠ .fz k := by intro k h; cases h) : Sim p α (g.set i o') (upd H a u) := by
  have hk : Keep H (upd H a u) := .write ((s.ob i o a e ea).mut nf)
  have hi : i < g.length := (List.getElem?_eq_some_iff.mp e).1
  refine ⟨by simp [s.len], fun j oj b e1 e2 => ?_, s.nd⟩
  by_cases hj : j = i
  · subst hj
    rw [List.getElem?_set_self hi] at e1
    cases e1
    rw [ea] at e2
    cases e2
    exact r
  · rw [List.getElem?_set_ne (Ne.symm hj)] at e1
    refine (s.ob j oj b e1 e2).mono (.refl _) hk ?_
    rw [upd_ne]
    rintro rfl
    exact hj (s.ix e2 ea)
/-- what an evaluation leaves: old names keep their addresses, tuples stay, what is not named stays and is not named -/
structure Kp (α : List Addr) (H : Hp) (α' : List Addr) (H' : Hp) : Prop where
  pre : Pre α α'
  kp : Keep H H'
  fr : ∀ a u, H a = some u → a ∉ α → H' a = some u ∧ a ∉ α'
theorem Kp.refl (α : List Addr) (H : Hp) : Kp α H α H := ⟨.refl _, .refl _, fun _ _ e n => ⟨e, n⟩⟩
theorem Kp.trans {α α1 α2 : List Addr} {H H1 H2 : Hp} (a : Kp α H α1 H1) (b : Kp α1 H1 α2 H2) : Kp α H α2 H2 :=
  ⟨a.pre.trans b.pre, a.kp.trans b.kp, fun c u e n => let ⟨e1, n1⟩ := a.fr c u e n; b.fr c u e1 n1⟩
theorem Kp.junk {α : List Addr} {H : Hp} {q : Addr} {o : HO} (h : H q = none) : Kp α H α (upd H q o) :=
  ⟨.refl _, .new h, fun a u e n => ⟨by rw [upd_ne (ne_of_none e h)]; exact e, n⟩⟩
theorem Kp.new {α : List Addr} {H : Hp} {q : Addr} {o : HO} (h : H q = none) : Kp α H (α ++ [q]) (upd H q o) :=
  ⟨⟨[q], rfl⟩, .new h, fun a u e n => ⟨by rw [upd_ne (ne_of_none e h)]; exact e, by
    intro hm
    rcases List.mem_append.mp hm with hm | hm
    · exact n hm
    · exact ne_of_none e h (by simpa using hm)⟩⟩
theorem Kp.write {α : List Addr} {H : Hp} {q : Addr} {o : HO} (m : Mut (H q)) (hq : q ∈ α) : Kp α H α (upd H q o) :=
  ⟨.refl _, .write m, fun a u e n => ⟨by
    rw [upd_ne]
    · exact e
    · rintro rfl; exact n hq, n⟩⟩
theorem RepV.mono {p : Px} {α α' : List Addr} {H H' : Hp} (k : Kp α H α' H') {w : W} {v : V} (h : RepV p α H w v) : RepV p α' H' w v := h.mono0 k.pre k.kp
theorem RepVs.mono {p : Px} {α α' : List Addr} {H H' : Hp} (k : Kp α H α' H') {w : List W} {v : List V} (h : RepVs p α H w v) : RepVs p α' H' w v := h.mono0 k.pre k.kp
/-! ### slots -/
structure SimSt (p : Px) (α : List Addr) (H : Hp) (ρ : Env) (σ : St) : Prop where
  len : ρ.length = σ.length
  at_ : ∀ (i : Nat) (w : W), ρ[i]? = some (some w) → ∃ v, σ[i]? = some (some v) ∧ RepV p α H w v
theorem SimSt.mono {p : Px} {α α' : List Addr} {H H' : Hp} {ρ : Env} {σ : St} (k : Kp α H α' H') (s : SimSt p α H ρ σ) : SimSt p α' H' ρ σ :=
  ⟨s.len, fun i w e => let ⟨v, x, r⟩ := s.at_ i w e; ⟨v, x, r.mono k⟩⟩
theorem SimSt.set {p : Px} {α : List Addr} {H : Hp} {ρ : Env} {σ : St} {w : W} {v : V} (s : SimSt p α H ρ σ) (i : Nat) (r : RepV p α H w v) : SimSt p α H (ρ.set i (some w)) (σ.set i (some v)) := by
  refine ⟨by simp [s.len], fun j x e => ?_⟩
  by_cases hj : i = j
  · subst hj
    have hi : i < ρ.length := by have := (List.getElem?_eq_some_iff.mp e).1; simpa using this
    rw [List.getElem?_set_self hi] at e
    cases e
    exact ⟨v, List.getElem?_set_self (by rw [← s.len]; exact hi), r⟩
  · rw [List.getElem?_set_ne hj] at e
    obtain ⟨y, x1, x2⟩ := s.at_ j x e
    exact ⟨y, by rw [List.getElem?_set_ne hj]; exact x1, x2⟩
theorem SimSt.setN {p : Px} {α : List Addr} {H : Hp} {ρ : Env} {σ : St} (s : SimSt p α H ρ σ) (i : Nat) : SimSt p α H (ρ.set i none) (σ.set i none) := by
  refine ⟨by simp [s.len], fun j x e => ?_⟩
  by_cases hj : i = j
  · subst hj
    have hi : i < ρ.length := by have := (List.getElem?_eq_some_iff.mp e).1; simpa using this
    rw [List.getElem?_set_self hi] at e
    cases e
  · rw [List.getElem?_set_ne hj] at e
    obtain ⟨y, x1, x2⟩ := s.at_ j x e
    exact ⟨y, by rw [List.getElem?_set_ne hj]; exact x1, x2⟩
theorem SimSt.wipe {p : Px} {α : List Addr} {H : Hp} {ρ : Env} {σ : St} (s : SimSt p α H ρ σ) : ∀ vs : List Nat, SimSt p α H (wipeE ρ vs) (wipe σ vs)
  | [] => s
  | v :: vs => (SimSt.wipe s vs).setN v

/-! ### readings -/
section
variable (p : Px) (Wx : WX)
/-- what a result has to give -/
def post {β γ : Type} (Rp : List Addr → Hp → β → γ → Prop) (r : R β) (α : List Addr) (H : Hp) (σ : St) (Q : γ → Hp → Prop) : Prop := match r with
  | .ok w g' => ∀ α' H' v, Kp α H α' H' → Sim p α' g' H' → Rp α' H' w v → Q v H'
  | .exc c g' => ∀ α' H', Kp α H α' H' → Sim p α' g' H' → Wx (.ref (p.xa c)) none σ H'
  | .err => False
def tG {β γ : Type} (Rp : List Addr → Hp → β → γ → Prop) (f : Env → G → R β) : St → Hp → (γ → Hp → Prop) → Prop := fun σ H Q =>
  ∃ α ρ g, Sim p α g H ∧ SimSt p α H ρ σ ∧ post p Wx Rp (f ρ g) α H σ Q
abbrev tE (f : Env → G → R W) : TE := tG p Wx (RepV p) f
abbrev tB (f : Env → G → R Bool) : TT := tG p Wx (fun _ _ b c => c = b) f
abbrev tA (f : Env → G → R (List W)) : TA := tG p Wx (RepVs p) f
end
section
variable {p : Px} {Wx : WX} {β γ δ ε : Type} {Rp : List Addr → Hp → β → γ → Prop} {Rq : List Addr → Hp → δ → ε → Prop} {α α' : List Addr} {H H' : Hp} {σ : St} {Q Q' : γ → Hp → Prop}
theorem post.imp {r : R β} (h : post p Wx Rp r α H σ Q) (f : ∀ v H', Keep H H' → Q v H' → Q' v H') : post p Wx Rp r α H σ Q' := by
  cases r with
  | ok w g => exact fun α' H' v b c d => f _ _ b.kp (h α' H' v b c d)
  | exc c g => exact h
  | err => exact h
theorem post.mono {r : R β} (h : post p Wx Rp r α H σ Q) (k : Kp α H α' H') : post p Wx Rp r α' H' σ Q := by
  cases r with
  | ok w g => exact fun α2 H2 v b c d => h α2 H2 v (k.trans b) c d
  | exc c g => exact fun α2 H2 b c => h α2 H2 (k.trans b) c
  | err => exact h
theorem post.bind {r : R δ} {k : δ → G → R β} (h : post p Wx Rp (r.bind k) α H σ Q) :
    post p Wx Rq r α H σ (fun x H1 => ∃ α1 g1 w, Kp α H α1 H1 ∧ Sim p α1 g1 H1 ∧ Rq α1 H1 w x ∧ post p Wx Rp (k w g1) α1 H1 σ Q) := by
  cases r with
  | ok w g => exact fun α1 H1 v b c d => ⟨α1, g, w, b, c, d, post.mono h b⟩
  | exc c g => exact h
  | err => exact h
theorem post.ok {w : β} {g : G} {v : γ} (h : post p Wx Rp (.ok w g) α H σ Q) (s : Sim p α g H) (r : Rp α H w v) : Q v H := h α H v (.refl _ _) s r
theorem post.of {g : G} {o : Option β} (h : post p Wx Rp (.of o g) α H σ Q) : ∃ w, o = some w ∧ post p Wx Rp (.ok w g) α H σ Q := by
  cases o with
  | none => exact h.elim
  | some w => exact ⟨w, rfl, h⟩
end
/-- a derivation may be chosen for the state at hand -/
theorem PE.by {X : Cx} {e : Expr} {t : TE} (h : ∀ σ H Q, t σ H Q → ∃ t', PE X e t' ∧ t' σ H Q) : PE X e t :=
  ⟨fun pins s σ H Q I q => let ⟨_, d, q'⟩ := h σ H Q q; d.run pins s σ H Q I q'⟩
theorem PT.by {X : Cx} {e : Expr} {t : TT} (h : ∀ σ H Q, t σ H Q → ∃ t', PT X e t' ∧ t' σ H Q) : PT X e t :=
  ⟨fun pins s σ H Q I q => let ⟨_, d, q'⟩ := h σ H Q q; d.run pins s σ H Q I q'⟩
theorem PS.by {X : Cx} {e : Stmt} {t : TS} (h : ∀ D σ H, t D σ H → ∃ t', PS X e t' ∧ t' D σ H) : PS X e t :=
  ⟨fun pins s σ H D I q => let ⟨_, d, q'⟩ := h D σ H q; d.run pins s σ H D I q'⟩
theorem PA.by {X : Cx} {e : List Expr} {t : TA} (h : ∀ σ H Q, t σ H Q → ∃ t', PA X e t' ∧ t' σ H Q) : PA X e t :=
  ⟨fun pos pins s σ H Q I q => let ⟨_, d, q'⟩ := h σ H Q q; d.run pos pins s σ H Q I q'⟩
end Dl

/-! DlC: operations on values, by the layer's rules. -/
namespace Dl
open PySem L2
section
variable {p : Px} {Wx : WX} {X : Cx} {α : List Addr} {H : Hp}

theorem RepV.int {i : Int} : RepV p α H (.int i) (.int i) := by simp only [RepV]
theorem RepV.bl {i : Bool} : RepV p α H (.bl i) (.bl i) := by simp only [RepV]
theorem RepV.non : RepV p α H .non .non := by simp only [RepV]
theorem RepV.str {s : List Nat} : RepV p α H (.str s) (.str (strV s)) := by simp only [RepV]
theorem RepV.tup {ws : List W} {a : Addr} {vs : List V} (h : SqT p.K H a vs) (r : RepVs p α H ws vs) : RepV p α H (.tup ws) (.ref a) := by
  simp only [RepV]; exact ⟨a, vs, rfl, h, r⟩
theorem RepV.ref {i : Nat} {a : Addr} (h : α[i]? = some a) : RepV p α H (.ref i) (.ref a) := by simp only [RepV]; exact ⟨a, rfl, h⟩
theorem RepV.int' {i : Int} {v : V} (h : RepV p α H (.int i) v) : v = .int i := by simpa only [RepV] using h
theorem RepV.bl' {i : Bool} {v : V} (h : RepV p α H (.bl i) v) : v = .bl i := by simpa only [RepV] using h
theorem RepV.non' {v : V} (h : RepV p α H .non v) : v = .non := by simpa only [RepV] using h
theorem RepV.str' {s : List Nat} {v : V} (h : RepV p α H (.str s) v) : v = .str (strV s) := by simpa only [RepV] using h
theorem RepV.tup' {ws : List W} {v : V} (h : RepV p α H (.tup ws) v) : ∃ a vs, v = .ref a ∧ SqT p.K H a vs ∧ RepVs p α H ws vs := by simpa only [RepV] using h
theorem RepV.fl' {ws : List W} {v : V} (h : RepV p α H (.fl ws) v) : ∃ a vs, v = .ref a ∧ SqF p.K H a vs ∧ RepVs p α H ws vs := by simpa only [RepV] using h
theorem RepV.fd' {ks : List (List Nat)} {ws : List W} {v : V} (h : RepV p α H (.fd ks ws) v) : ∃ a us vs, v = .ref a ∧ p.kd a ∧ Vals vs us ∧ us.length = ks.length ∧ (∀ z : List Nat, PySem.W.nsIn p.K a (strV z) = some ((ks.zip us).lookup z)) ∧ RepVs p α H ws vs := by simpa only [RepV] using h
theorem RepV.ref' {i : Nat} {v : V} (h : RepV p α H (.ref i) v) : ∃ a, v = .ref a ∧ α[i]? = some a := by simpa only [RepV] using h
/-- a value of a kind -/
theorem lim_line : lim ≤ sizeLine := by decide
theorem strV_len (s : List Nat) : (strV s).length = s.length := by show s.toArray.size = s.length; simp
theorem strV_app (s t : List Nat) : strV s ++ strV t = strV (s ++ t) := by
  show (⟨s.toArray ++ t.toArray⟩ : Str) = ⟨(s ++ t).toArray⟩
  simp

/-- a new tuple -/
theorem post.newT {ws : List W} {g : G} {σ : St} {Q : VK} {q : Addr} {vs : List V} (h : post p Wx (RepV p) (.ok (.tup ws) g) α H σ Q) (s : Sim p α g H) (r : RepVs p α H ws vs) (hq : H q = none) : Q (.ref q) (upd H q (.tup vs)) :=
  h α _ _ (.junk hq) (s.junk hq) (.tup (.inl (.inl upd_same)) (r.mono (.junk hq)))
/-- a new list -/
theorem post.newL {ws : List W} {g : G} {σ : St} {Q : VK} {q : Addr} {vs : List V} (h : post p Wx (RepV p) (.ok (.ref g.length) (g ++ [.lst ws])) α H σ Q) (s : Sim p α g H) (r : RepVs p α H ws vs) (hq : H q = none) : Q (.ref q) (upd H q (.lst vs)) :=
  h (α ++ [q]) _ _ (.new hq) (s.new hq ⟨vs, upd_same, r.mono (.new hq)⟩) (.ref (by rw [← s.len]; simp))

def rB (p : Px) (Wx : WX) (o : Bop) : R2 := fun x y H Q => ∃ α g w u σ, Sim p α g H ∧ RepV p α H w x ∧ RepV p α H u y ∧ post p Wx (RepV p) (o.run w u g) α H σ Q
def Bop.op : Bop → Operator
  | .add => .Add | .sub => .Sub | .mul => .Mult | .fdiv => .FloorDiv | .mod => .Mod | .pow => .Pow | .shl => .LShift | .shr => .RShift | .band => .BitAnd | .bor => .BitOr | .bxor => .BitXor
theorem run_int {o : Bop} {i j : Int} {g : G} {σ : St} {Q : VK} (s : Sim p α g H) (h : post p Wx (RepV p) (o.run (.int i) (.int j) g) α H σ Q) : ∃ k, o.runI i j = some k ∧ Q (.int k) H := by
  simp only [Bop.run] at h
  obtain ⟨w, e, h⟩ := post.of h
  cases q : o.runI i j with
  | none => rw [q] at e; simp at e
  | some k =>
    rw [q] at e; simp at e; subst e
    exact ⟨k, rfl, h.ok s .int⟩
theorem smallI_ok {a b : Int} (h : (smallI a && smallI b) = true) : CMulW a b := by
  simp only [smallI, Bool.and_eq_true, decide_eq_true_eq] at h
  unfold CMulW
  omega
theorem op_int {o : Bop} {pins : List (Addr × Obj)} {s : Shared} {σ : St} {H : Hp} {v u : Value} {Q : VK} {i j k : Int} (I : Inv X pins σ H s) (rx : RelV (.int i) v) (ry : RelV (.int j) u) (e : o.runI i j = some k) (q : Q (.int k) H) :
    wpAny (model X.prog X.w) X.A (binaryOp o.op v u) (EP X pins σ Q) X.xe s := by
  cases o with
  | add => cases e; exact op_add pins s σ H _ _ v u Q I rx ry ⟨i, j, rfl, rfl, q⟩
  | sub => cases e; exact op_sub pins s σ H _ _ v u Q I rx ry ⟨i, j, rfl, rfl, q⟩
  | mul =>
    simp only [Bop.runI] at e
    split at e
    · rename_i c; cases e; exact op_mulW pins s σ H _ _ v u Q I rx ry ⟨i, j, rfl, rfl, smallI_ok c, q⟩
    · cases e
  | fdiv =>
    simp only [Bop.runI] at e
    split at e
    · rename_i c; cases e; exact op_fdivW pins s σ H _ _ v u Q I rx ry ⟨i, j, rfl, rfl, c, q⟩
    · cases e
  | mod =>
    simp only [Bop.runI] at e
    split at e
    · rename_i c; cases e; exact op_mod pins s σ H _ _ v u Q I rx ry ⟨i, j, rfl, rfl, c, q⟩
    · cases e
  | pow =>
    simp only [Bop.runI] at e
    split at e
    · rename_i c; cases e; exact op_pow pins s σ H _ _ v u Q I rx ry ⟨i, j, rfl, rfl, c, q⟩
    · cases e
  | shl =>
    simp only [Bop.runI] at e
    split at e
    · rename_i c; cases e; exact op_shl pins s σ H _ _ v u Q I rx ry ⟨i, j, rfl, rfl, c, q⟩
    · cases e
  | shr =>
    simp only [Bop.runI] at e
    split at e
    · rename_i c; cases e; exact op_shr pins s σ H _ _ v u Q I rx ry ⟨i, j, rfl, rfl, c, q⟩
    · cases e
  | band => cases e; exact op_and pins s σ H _ _ v u Q I rx ry ⟨i, j, rfl, rfl, q⟩
  | bor => cases e; exact op_or pins s σ H _ _ v u Q I rx ry ⟨i, j, rfl, rfl, q⟩
  | bxor => cases e; exact op_xor pins s σ H _ _ v u Q I rx ry ⟨i, j, rfl, rfl, q⟩
theorem Sim.lst {g : G} {i : Nat} {ws : List W} {a : Addr} (s : Sim p α g H) (e : g[i]? = some (.lst ws)) (ea : α[i]? = some a) : ∃ vs, H a = some (.lst vs) ∧ RepVs p α H ws vs := s.ob i _ a e ea
theorem op_bop (hK : p.K = X.K) (o : Bop) : OpR X (binaryOp o.op) (rB p Wx o) := by
  rintro pins s σ H x y v u Q I rx ry ⟨α, g, w1, w2, σ', S, R1, R2, h⟩
  cases w1 with
  | int i =>
    cases w2 with
    | int j =>
      obtain ⟨k, e, q⟩ := run_int S h
      rw [R1.int'] at rx
      rw [R2.int'] at ry
      exact op_int I rx ry e q
    | _ => exact h.elim
  | str a =>
    cases w2 with
    | str b =>
      cases o <;> simp only [Bop.run] at h <;> try exact h.elim
      split at h
      · rename_i c
        rw [R1.str'] at rx
        rw [R2.str'] at ry
        refine op_add_str pins s σ H _ _ v u Q I rx ry ⟨_, _, rfl, rfl, ?_, ?_⟩
        · rw [strV_len, strV_len]; exact Nat.le_trans c lim_line
        · rw [strV_app]; exact h.ok S .str
      · exact h.elim
    | _ => exact h.elim
  | tup a =>
    cases w2 with
    | tup b =>
      cases o <;> simp only [Bop.run] at h <;> try exact h.elim
      split at h
      · rename_i c
        obtain ⟨q1, vs1, rfl, T1, S1⟩ := R1.tup'
        obtain ⟨q2, vs2, rfl, T2, S2⟩ := R2.tup'
        refine op_catA pins s σ H _ _ v u Q I rx ry ⟨q1, q2, vs1, vs2, rfl, rfl, hK ▸ T1, hK ▸ T2, ?_, ?_, ?_, ?_⟩
        · rw [← S1.length, ← S2.length]; exact Nat.le_trans c lim_line
        · rintro rfl
          have : a = [] := List.length_eq_zero_iff.mp S1.length
          subst this
          exact h.ok S (.tup T2 S2)
        · rintro _ rfl
          have : b = [] := List.length_eq_zero_iff.mp S2.length
          subst this
          rw [List.append_nil] at h
          exact h.ok S (.tup T1 S1)
        · intro _ _ q hq
          exact h.newT S (S1.append S2) hq
      · exact h.elim
    | int k =>
      cases o <;> simp only [Bop.run] at h <;> try exact h.elim
      split at h
      · rename_i c
        obtain ⟨q1, vs1, rfl, T1, S1⟩ := R1.tup'
        rw [R2.int'] at ry
        refine op_repA pins s σ H _ _ v u Q I rx ry ⟨q1, k, vs1, rfl, rfl, hK ▸ T1, c.1, c.2.1, by rw [← S1.length]; exact c.2.2, ?_, fun _ q hq => h.newT S (S1.rep k.toNat) hq⟩
        rintro (rfl | rfl)
        · simp only [show (1 : Int).toNat = 1 from rfl, List.replicate_one, List.flatten_cons, List.flatten_nil, List.append_nil] at h
          exact h.ok S (.tup T1 S1)
        · have : a = [] := List.length_eq_zero_iff.mp S1.length
          subst this
          have e : (List.replicate k.toNat ([] : List W)).flatten = [] := by simp
          rw [e] at h
          exact h.ok S (.tup T1 S1)
      · exact h.elim
    | _ => exact h.elim
  | ref i =>
    cases w2 with
    | ref j =>
      obtain ⟨q1, rfl, e1⟩ := R1.ref'
      obtain ⟨q2, rfl, e2⟩ := R2.ref'
      simp only [Bop.run] at h
      split at h
      · rename_i x y f1 f2
        split at h
        · rename_i c
          obtain ⟨vs1, H1, S1⟩ := S.lst f1 e1
          obtain ⟨vs2, H2, S2⟩ := S.lst f2 e2
          refine op_cat pins s σ H _ _ v u Q I rx ry ⟨q1, q2, vs1, vs2, rfl, rfl, H1, H2, ?_, fun q hq => ?_⟩
          · rw [← S1.length, ← S2.length]; exact Nat.le_trans c lim_line
          · exact h.newL S (S1.append S2) hq
        · exact h.elim
      · exact h.elim
    | int k =>
      obtain ⟨q1, rfl, e1⟩ := R1.ref'
      rw [R2.int'] at ry
      simp only [Bop.run] at h
      split at h
      · rename_i x f1
        split at h
        · rename_i c
          obtain ⟨c1, c2, c3⟩ := c
          obtain ⟨vs1, H1, S1⟩ := S.lst f1 e1
          have l1 : (lim : Int) = 1000000 := rfl
          refine op_rep pins s σ H _ _ v u Q I rx ry ⟨q1, k, vs1, rfl, rfl, H1, ?_, ?_, ?_, fun q hq => ?_⟩
          · omega
          · omega
          · rw [← S1.length]; exact Nat.le_trans c3 lim_line
          · exact h.newL S (S1.rep _) hq
        · exact h.elim
      · exact h.elim
    | _ => exact h.elim
  | _ => exact h.elim
end
end Dl

/-! DlD: comparisons, truth, calls of built-ins, by the layer's rules. -/
namespace Dl
open PySem L2
/-! ### data -/
section
variable {p : Px} {Wx : WX} {X : Cx} {α : List Addr} {H : Hp} {g : G}
theorem Sim.lstOf (s : Sim p α g H) {i : Nat} {ws : List W} {a : Addr} (e : Dl.lstOf (.ref i) g = some ws) (ea : α[i]? = some a) : ∃ vs, SqL p.K H a vs ∧ RepVs p α H ws vs := by
  simp only [Dl.lstOf] at e
  split at e
  · rename_i w f
    cases e
    obtain ⟨vs, h, r⟩ := s.ob i _ a f ea
    exact ⟨vs, .of h, r⟩
  · cases e
theorem dp_all (s : Sim p α g H) {n : Nat} (ih : ∀ w v, dataOk g n w = true → RepV p α H w v → Dp p.K H v (pd g n w)) : ∀ {ws : List W} {vs : List V}, ws.all (dataOk g n) = true → RepVs p α H ws vs → DpAll p.K H vs (ws.map (pd g n))
  | [], _, _, r => by rw [r.nil']; exact .nil
  | w :: ws, _, h, r => by
    obtain ⟨v, q, e, a, b⟩ := r.cons'
    simp only [List.all_cons, Bool.and_eq_true] at h
    rw [e]
    exact .cons (ih w v h.1 a) (dp_all s ih h.2 b)
theorem dp_of (s : Sim p α g H) : ∀ (n : Nat) (w : W) (v : V), dataOk g n w = true → RepV p α H w v → Dp p.K H v (pd g n w)
  | 0, _, _, h, _ => by simp [dataOk] at h
  | n + 1, .tup ws, v, h, r => by
    obtain ⟨a, vs, rfl, T, rs⟩ := r.tup'
    simp only [dataOk] at h
    exact .tup T (dp_all s (dp_of s n) h rs)
  | n + 1, .ref i, v, h, r => by
    obtain ⟨a, rfl, ea⟩ := r.ref'
    simp only [dataOk] at h
    split at h
    · rename_i ws f
      obtain ⟨vs, L, rs⟩ := s.lstOf f ea
      simp only [pd, f, Option.getD_some]
      exact .lst L (dp_all s (dp_of s n) h rs)
    · cases h
  | _ + 1, .non, v, _, r => by rw [r.non']; exact .non
  | _ + 1, .bl b, v, _, r => by rw [r.bl']; exact .bl b
  | _ + 1, .int b, v, _, r => by rw [r.int']; exact .int b
  | _ + 1, .str b, v, _, r => by rw [r.str']; exact .str _
  | n + 1, .fl ws, v, h, r => by
    obtain ⟨a, vs, rfl, L, rs⟩ := r.fl'
    simp only [dataOk] at h
    exact .lst L.sq (dp_all s (dp_of s n) h rs)
  | _ + 1, .exn _, v, h, _ => by simp [dataOk] at h
theorem lay_all {n : Nat} (ih : ∀ w, dataOk g n w = true → (pd g n w).canLay0 = true ∧ (pd g n w).depth ≤ n) : ∀ {ws : List W}, ws.all (dataOk g n) = true → PyData.canLayAll0 (ws.map (pd g n)) = true ∧ PyData.depthAll (ws.map (pd g n)) ≤ n
  | [], _ => ⟨rfl, Nat.zero_le _⟩
  | w :: ws, h => by
    simp only [List.all_cons, Bool.and_eq_true] at h
    obtain ⟨a, b⟩ := ih w h.1
    obtain ⟨c, d⟩ := lay_all ih h.2
    simp only [List.map_cons, PyData.canLayAll0, PyData.depthAll, Bool.and_eq_true]
    exact ⟨⟨a, c⟩, Nat.max_le.mpr ⟨b, d⟩⟩
theorem lay_of : ∀ (n : Nat) (w : W), dataOk g n w = true → (pd g n w).canLay0 = true ∧ (pd g n w).depth ≤ n
  | 0, _, h => by simp [dataOk] at h
  | n + 1, .tup ws, h => by
    simp only [dataOk] at h
    obtain ⟨a, b⟩ := lay_all (lay_of n) h
    simp only [pd, PyData.canLay0, PyData.depth]
    exact ⟨a, by omega⟩
  | n + 1, .ref i, h => by
    simp only [dataOk] at h
    split at h
    · rename_i ws f
      obtain ⟨a, b⟩ := lay_all (lay_of n) h
      simp only [pd, f, Option.getD_some, PyData.canLay0, PyData.depth]
      exact ⟨a, by omega⟩
    · cases h
  | _ + 1, .non, _ => ⟨rfl, Nat.zero_le _⟩
  | _ + 1, .bl b, _ => ⟨rfl, Nat.zero_le _⟩
  | _ + 1, .int b, _ => ⟨rfl, Nat.zero_le _⟩
  | _ + 1, .str b, h => by
    simp only [dataOk] at h
    refine ⟨?_, Nat.zero_le _⟩
    simp only [pd, PyData.canLay0, PyData.strOk]
    rw [← Array.all_toList]
    simpa using h
  | n + 1, .fl ws, h => by
    simp only [dataOk] at h
    obtain ⟨a, b⟩ := lay_all (lay_of n) h
    simp only [pd, PyData.canLay0, PyData.depth]
    exact ⟨a, by omega⟩
  | _ + 1, .exn _, h => by simp [dataOk] at h
theorem shaped_of {w : W} (h : dataOk g 60 w = true) : SeqAt.shaped (pd g 60 w) = true := by
  obtain ⟨a, b⟩ := lay_of 60 w h
  unfold SeqAt.shaped
  simp only [Bool.and_eq_true, decide_eq_true_eq]
  exact ⟨a, by omega⟩
theorem strV_beq (s t : List Nat) : (strV s == strV t) = (s == t) := by
  by_cases h : s = t
  · subst h; simp
  · have : ¬ strV s = strV t := fun e => h (by
      have := congrArg (fun z : Str => z.cps.toList) e
      simpa using this)
    rw [beq_eq_false_iff_ne.mpr this, beq_eq_false_iff_ne.mpr h]
theorem strV_inj {s t : List Nat} (e : strV s = strV t) : s = t := by
  have := congrArg (fun z : Str => z.cps.toList) e
  simpa using this
theorem eqv_all {n : Nat} (ih : ∀ x y, dataOk g n x = true → dataOk g n y = true → PyData.eqv (pd g n x) (pd g n y) = eqb g n x y) : ∀ {xs ys : List W}, xs.all (dataOk g n) = true → ys.all (dataOk g n) = true →
    PyData.eqvAll (xs.map (pd g n)) (ys.map (pd g n)) = eqbs (eqb g n) xs ys
  | [], [], _, _ => rfl
  | [], _ :: _, _, _ => rfl
  | _ :: _, [], _, _ => rfl
  | x :: xs, y :: ys, h, k => by
    simp only [List.all_cons, Bool.and_eq_true] at h k
    simp only [List.map_cons, PyData.eqvAll, eqbs]
    rw [ih x y h.1 k.1, eqv_all ih h.2 k.2]
theorem eqv_of : ∀ (n : Nat) (x y : W), dataOk g n x = true → dataOk g n y = true → PyData.eqv (pd g n x) (pd g n y) = eqb g n x y
  | 0, _, _, h, _ => by simp [dataOk] at h
  | n + 1, x, y, h, k => by
    have lists : ∀ {xs ys : List W}, xs.all (dataOk g n) = true → ys.all (dataOk g n) = true → PyData.eqv (.list (xs.map (pd g n))) (.list (ys.map (pd g n))) = eqbs (eqb g n) xs ys := by
      intro xs ys h k
      simp only [PyData.eqv]
      exact eqv_all (eqv_of n) h k
    cases x with
    | tup xs =>
      cases y with
      | tup ys =>
        simp only [dataOk] at h k
        simp only [pd, PyData.eqv, eqb]
        exact eqv_all (eqv_of n) h k
      | exn _ => simp [dataOk] at k
      | _ => simp [pd, PyData.eqv, eqb, lstOf, seqb]
    | ref i =>
      simp only [dataOk] at h
      split at h
      · rename_i ws f
        cases y with
        | ref j =>
          simp only [dataOk] at k
          split at k
          · rename_i us f'
            simp only [pd, f, f', Option.getD_some, eqb]
            exact lists h k
          · cases k
        | fl us =>
          simp only [dataOk] at k
          simp only [pd, f, Option.getD_some, eqb]
          exact lists h k
        | exn _ => simp [dataOk] at k
        | _ => simp [pd, PyData.eqv, eqb, f, lstOf, seqb]
      · cases h
    | fl ws =>
      simp only [dataOk] at h
      cases y with
      | ref j =>
        simp only [dataOk] at k
        split at k
        · rename_i us f'
          simp only [pd, f', Option.getD_some, eqb]
          exact lists h k
        · cases k
      | fl us =>
        simp only [dataOk] at k
        simp only [pd, eqb, lstOf]
        exact lists h k
      | exn _ => simp [dataOk] at k
      | _ => simp [pd, PyData.eqv, eqb, lstOf, seqb]
    | exn _ => simp [dataOk] at h
    | fd _ _ => simp [dataOk] at h
    | non => cases y <;> first | (simp [pd, PyData.eqv, eqb, lstOf, seqb]; done) | simp [dataOk] at k
    | bl a => cases y <;> first | (simp [pd, PyData.eqv, eqb, lstOf, seqb]; done) | simp [dataOk] at k
    | int a => cases y <;> first | (simp [pd, PyData.eqv, eqb, lstOf, seqb]; done) | simp [dataOk] at k
    | str a => cases y <;> first | (simp [pd, PyData.eqv, eqb, lstOf, seqb]; done) | (simp only [pd, PyData.eqv, eqb, lstOf, seqb, strV_beq]; done) | simp [dataOk] at k
theorem scal_of {x y : W} {v u : V} (h : scal2 x y = true) (rx : RepV p α H x v) (ry : RepV p α H y u) : scal v u = true ∧ decide (v = u) = seqb x y := by
  cases x <;> cases y <;> first | (simp [scal2] at h; done) | skip
  all_goals (simp only [RepV] at rx ry; subst rx ry)
  all_goals refine ⟨rfl, ?_⟩
  all_goals first
    | rfl
    | (simp only [seqb]; rw [Bool.beq_eq_decide_eq]; congr 1; apply propext; constructor; (intro e; cases e; rfl); (intro e; rw [e]))
    | (simp only [seqb]; rw [Bool.beq_eq_decide_eq]; congr 1; apply propext; constructor; (intro e; injection e with e; exact strV_inj e); (intro e; rw [e]))
    | (simp [seqb]; done)
end

/-! ### comparisons by values -/
def rC (p : Px) (Wx : WX) (o : Cop) : R2 := fun x y H Q => ∃ α g w u σ, Sim p α g H ∧ RepV p α H w x ∧ RepV p α H u y ∧ post p Wx (RepV p) (R.of ((o.run w u g).map W.bl) g) α H σ Q
def Cop.op : Cop → CmpOp
  | .eq => .Eq | .ne => .NotEq | .lt => .Lt | .le => .LtE | .gt => .Gt | .ge => .GtE | .is_ => .Is | .isnot => .IsNot | .in_ => .In | .notin => .NotIn
section
variable {p : Px} {Wx : WX} {X : Cx} {α : List Addr} {H : Hp}
theorem c_post {o : Cop} {w u : W} {g : G} {σ : St} {Q : VK} (S : Sim p α g H) (h : post p Wx (RepV p) (R.of ((o.run w u g).map W.bl) g) α H σ Q) : ∃ k, o.run w u g = some k ∧ Q (.bl k) H := by
  obtain ⟨w', e, h⟩ := post.of h
  cases q : o.run w u g with
  | none => rw [q] at e; simp at e
  | some k =>
    rw [q] at e; simp at e; subst e
    exact ⟨k, rfl, h.ok S .bl⟩
theorem Sim.dict {g : G} {i : Nat} {kvs : List (W × W)} {a : Addr} (s : Sim p α g H) (e : g[i]? = some (.dct kvs)) (ea : α[i]? = some a) :
    ∃ kvs', H a = some (.dK kvs') ∧ RepKV p α H kvs kvs' := s.ob i _ a e ea
theorem Sim.fz {g : G} {i : Nat} {kvs : List (W × W)} {a : Addr} (s : Sim p α g H) (e : g[i]? = some (.fz kvs)) (ea : α[i]? = some a) :
    ∃ o kvs', H a = some (.frz o (.dK kvs')) ∧ RepKV p α H kvs kvs' := s.ob i _ a e ea
theorem Sim.dictR {g : G} {i : Nat} {o : Ob} {kvs : List (W × W)} {a : Addr} (s : Sim p α g H) (e : g[i]? = some o) (ho : o = .dct kvs ∨ o = .fz kvs) (ea : α[i]? = some a) :
    ∃ kvs', Rd H a (.dK kvs') ∧ RepKV p α H kvs kvs' := by
  rcases ho with rfl | rfl
  · obtain ⟨k, h, r⟩ := s.dict e ea; exact ⟨k, .inl h, r⟩
  · obtain ⟨o, k, h, r⟩ := s.fz e ea; exact ⟨k, .inr ⟨o, h⟩, r⟩
theorem Sim.kvs {g : G} {i : Nat} {kvs : List (W × W)} {a : Addr} (s : Sim p α g H) (e : kvsOf (.ref i) g = some kvs) (ea : α[i]? = some a) :
    ∃ kvs', Rd H a (.dK kvs') ∧ RepKV p α H kvs kvs' := by
  simp only [kvsOf] at e
  split at e
  · rename_i f; cases e; exact s.dictR f (.inl rfl) ea
  · rename_i f; cases e; exact s.dictR f (.inr rfl) ea
  · cases e
theorem keyK_rep {w : W} {k : Key} {v : V} (e : keyK w = some k) (r : RepV p α H w v) : v = kV k := by
  cases w <;> simp [keyK] at e
  · subst e; exact r.int'
  · subst e; exact r.str'
theorem keyK_inj {a b : W} {k : Key} (e : keyK a = some k) (f : keyK b = some k) : a = b := by
  cases a <;> simp [keyK] at e
  · cases b <;> simp [keyK] at f
    · rw [← e] at f; injection f with f; rw [f]
    · rw [← e] at f; cases f
  · cases b <;> simp [keyK] at f
    · rw [← e] at f; cases f
    · rw [← e] at f; injection f with f; rw [strV_inj f]
mutual
theorem weq_refl : ∀ w : W, weq w w = true
  | .non => rfl
  | .bl _ => by simp [weq]
  | .int _ => by simp [weq]
  | .str _ => by simp [weq]
  | .tup ws => by simp only [weq]; exact weqs_refl ws
  | .ref _ => by simp [weq]
  | .exn _ => by simp [weq]
  | .fl ws => by simp only [weq]; exact weqs_refl ws
  | .fd ks ws => by simp only [weq, Bool.and_eq_true]; exact ⟨by simp, weqs_refl ws⟩
theorem weqs_refl : ∀ ws : List W, weqs ws ws = true
  | [] => rfl
  | w :: r => by simp only [weqs, Bool.and_eq_true]; exact ⟨weq_refl w, weqs_refl r⟩
end
mutual
theorem weq_eq : ∀ {a b : W}, weq a b = true → a = b
  | .non, b, h => by cases b <;> simp [weq] at h; rfl
  | .bl _, b, h => by cases b <;> simp [weq] at h; rw [h]
  | .int _, b, h => by cases b <;> simp [weq] at h; rw [h]
  | .str _, b, h => by cases b <;> simp [weq] at h; rw [h]
  | .tup ws, b, h => by
    cases b with
    | tup us => simp only [weq] at h; rw [weqs_eq h]
    | _ => simp [weq] at h
  | .ref _, b, h => by cases b <;> simp [weq] at h; rw [h]
  | .exn _, b, h => by cases b <;> simp [weq] at h; rw [h]
  | .fl ws, b, h => by
    cases b with
    | fl us => simp only [weq] at h; rw [weqs_eq h]
    | _ => simp [weq] at h
  | .fd ks ws, b, h => by
    cases b with
    | fd ls us =>
      simp only [weq, Bool.and_eq_true] at h
      rw [eq_of_beq h.1, weqs_eq h.2]
    | _ => simp [weq] at h
theorem weqs_eq : ∀ {a b : List W}, weqs a b = true → a = b
  | [], b, h => by cases b <;> simp [weqs] at h; rfl
  | w :: r, b, h => by
    cases b with
    | nil => simp [weqs] at h
    | cons u q =>
      simp only [weqs, Bool.and_eq_true] at h
      rw [weq_eq h.1, weqs_eq h.2]
end
theorem weq_iff {a b : W} : weq a b = true ↔ a = b := ⟨weq_eq, fun e => by rw [e]; exact weq_refl b⟩
theorem weq_ne {a b : W} (h : a ≠ b) : weq a b = false := by
  cases e : weq a b with
  | true => exact absurd (weq_eq e) h
  | false => rfl
/-! ### dicts -/
theorem RepKV.get {k : W} {κ : Key} (hk : keyK k = some κ) : ∀ {kvs : List (W × W)} {kvs' : List (Key × V)}, RepKV p α H kvs kvs' →
    (getD kvs k = none ∧ valV kvs' κ = none) ∨ ∃ w v, getD kvs k = some w ∧ valV kvs' κ = some v ∧ RepV p α H w v
  | [], _, h => by
    have : _ = [] := h
    subst this
    exact .inl ⟨rfl, rfl⟩
  | (a, w) :: r, _, ⟨k', v, q, e, ek, rv, rr⟩ => by
    subst e
    by_cases ha : a = k
    · subst ha
      have : k' = κ := Option.some.inj (ek.symm.trans hk)
      refine .inr ⟨w, v, by simp [getD, weq_refl], valV_pos this, rv⟩
    · have n : ¬ k' = κ := fun z => ha (keyK_inj (z ▸ ek) hk)
      simp only [getD, weq_ne ha]
      rw [valV_neg (p := (k', v)) n]
      exact RepKV.get hk rr
theorem fits_key {kvs : List (W × W)} {k : W} (h : fits kvs k = true) : ∃ κ, keyK k = some κ := by
  cases k <;> simp [fits] at h
  · exact ⟨_, rfl⟩
  · exact ⟨_, rfl⟩
theorem RepKV.length : ∀ {kvs : List (W × W)} {kvs' : List (Key × V)}, RepKV p α H kvs kvs' → kvs.length = kvs'.length
  | [], _, h => by
    have : _ = [] := h
    subst this; rfl
  | (a, w) :: r, _, ⟨k', v, q, e, ek, rv, rr⟩ => by subst e; simp [RepKV.length rr]
theorem RepKV.any {k : W} {κ : Key} (hk : keyK k = some κ) : ∀ {kvs : List (W × W)} {kvs' : List (Key × V)}, RepKV p α H kvs kvs' → (kvs.any fun kv => weq kv.1 k) = kvs'.any fun kv => decide (kv.1 = κ)
  | [], _, h => by
    have : _ = [] := h
    subst this; rfl
  | (a, w) :: r, _, ⟨k', v, q, e, ek, rv, rr⟩ => by
    subst e
    simp only [List.any_cons]
    rw [RepKV.any hk rr]
    congr 1
    by_cases ha : a = k
    · subst ha
      rw [weq_refl, decide_eq_true (Option.some.inj (ek.symm.trans hk))]
    · have n : ¬ k' = κ := fun z => ha (keyK_inj (z ▸ ek) hk)
      rw [weq_ne ha, decide_eq_false n]
theorem RepKV.map {k w : W} {κ : Key} {v : V} (hk : keyK k = some κ) (rw_ : RepV p α H w v) : ∀ {kvs : List (W × W)} {kvs' : List (Key × V)}, RepKV p α H kvs kvs' →
    RepKV p α H (kvs.map fun kv => if weq kv.1 k then (kv.1, w) else kv) (kvs'.map fun kv => if kv.1 = κ then (kv.1, v) else kv)
  | [], _, h => by
    have : _ = [] := h
    subst this; exact h
  | (a, w') :: r, _, ⟨k', v', q, e, ek, rv, rr⟩ => by
    subst e
    simp only [List.map_cons]
    by_cases ha : a = k
    · subst ha
      rw [if_pos (weq_refl a), if_pos (Option.some.inj (ek.symm.trans hk))]
      exact ⟨k', v, _, rfl, ek, rw_, RepKV.map hk rw_ rr⟩
    · have n : ¬ k' = κ := fun z => ha (keyK_inj (z ▸ ek) hk)
      rw [if_neg (by rw [weq_ne ha]; decide), if_neg n]
      exact ⟨k', v', _, rfl, ek, rv, RepKV.map hk rw_ rr⟩
theorem RepKV.snoc {k w : W} {κ : Key} {v : V} (hk : keyK k = some κ) (rw_ : RepV p α H w v) : ∀ {kvs : List (W × W)} {kvs' : List (Key × V)}, RepKV p α H kvs kvs' → RepKV p α H (kvs ++ [(k, w)]) (kvs' ++ [(κ, v)])
  | [], _, h => by
    have : _ = [] := h
    subst this; exact ⟨κ, v, [], rfl, hk, rw_, rfl⟩
  | (a, w') :: r, _, ⟨k', v', q, e, ek, rv, rr⟩ => by
    subst e
    exact ⟨k', v', _, rfl, ek, rv, RepKV.snoc hk rw_ rr⟩
theorem RepKV.put {k w : W} {κ : Key} {v : V} (hk : keyK k = some κ) (rw_ : RepV p α H w v) {kvs : List (W × W)} {kvs' : List (Key × V)} (r : RepKV p α H kvs kvs') : RepKV p α H (putD kvs k w) (putK kvs' κ v) := by
  unfold putK putD
  rw [RepKV.any hk r]
  split
  · exact RepKV.map hk rw_ r
  · exact RepKV.snoc hk rw_ r
/-! ### the comparisons -/
theorem seq_flat {w : W} (h : flatW w = true) {v : V} (r : RepV p α H w v) : flatV v = true := by
  cases w <;> simp [flatW] at h <;> simp only [RepV] at r <;> subst r <;> rfl
theorem seqb_eqV {w u : W} {v y : V} (h : flatW w = true) (k : flatW u = true) (r : RepV p α H w v) (q : RepV p α H u y) : eqV v y = seqb w u := by
  cases w <;> simp [flatW] at h <;> cases u <;> simp [flatW] at k <;> simp only [RepV] at r q <;> subst r q <;> simp only [eqV, seqb, strV_beq]
theorem all_flat : ∀ {ws : List W} {vs : List V}, ws.all flatW = true → RepVs p α H ws vs → vs.all flatV = true
  | [], _, _, r => by rw [r.nil']; rfl
  | w :: ws, _, h, r => by
    obtain ⟨v, q, e, a, b⟩ := r.cons'
    simp only [List.all_cons, Bool.and_eq_true] at h
    rw [e]
    simp only [List.all_cons, Bool.and_eq_true]
    exact ⟨seq_flat h.1 a, all_flat h.2 b⟩
theorem any_seqb {x : W} {y : V} (hx : flatW x = true) (rx : RepV p α H x y) : ∀ {ws : List W} {vs : List V}, ws.all flatW = true → RepVs p α H ws vs → inV y vs = ws.any fun w => seqb w x
  | [], _, _, r => by rw [r.nil']; rfl
  | w :: ws, _, h, r => by
    obtain ⟨v, q, e, a, b⟩ := r.cons'
    simp only [List.all_cons, Bool.and_eq_true] at h
    have ih := any_seqb hx rx h.2 b
    rw [e]
    unfold inV at ih ⊢
    simp only [List.any_cons]
    rw [ih, seqb_eqV h.1 hx a rx]
/-- the written dicts are what they are -/
def KdOk (p : Px) (X : Cx) : Prop := ∀ a, p.kd a → ∃ es n, KDict X.K X.w a es n
theorem fd_get {α : List Addr} {H : Hp} {z : List Nat} : ∀ {ks : List (List Nat)} {ws : List W} {vs : List V} {us : List Value}, Vals vs us → us.length = ks.length → RepVs p α H ws vs →
    (getFd ks ws z = none ∧ (ks.zip us).lookup z = none) ∨ ∃ w v u, getFd ks ws z = some w ∧ (ks.zip us).lookup z = some u ∧ RelV v u ∧ RepV p α H w v
  | [], _, _, _, _, _, _ => .inl ⟨by simp [getFd], by simp⟩
  | k :: ks, [], _, _, r, hl, R => by
    have := R.nil'
    subst this
    cases r
    simp at hl
  | k :: ks, w :: ws, _, _, r, hl, R => by
    obtain ⟨v, q, rfl, a, b⟩ := R.cons'
    cases r with
    | cons r1 r2 =>
      rename_i u us
      by_cases hz : z = k
      · subst hz
        exact .inr ⟨w, v, u, by simp [getFd, List.lookup_cons], by simp [List.lookup_cons], r1, a⟩
      · have hb : (z == k) = false := beq_eq_false_iff_ne.mpr hz
        have := fd_get (z := z) r2 (by simpa using hl) b
        simpa [getFd, List.lookup_cons, hb] using this
theorem op_in (hK : p.K = X.K) (hkd : KdOk p X) (hu : X.A.units + 64 < cLine) {pins : List (Addr × Obj)} {s : Shared} {σ : St} {x y : V} {v u : Value} {Q : VK} {g : G} {w1 w2 : W} {k : Bool} (neg : Bool) (I : Inv X pins σ H s) (rx : RelV x v) (ry : RelV y u)
    (S : Sim p α g H) (R1 : RepV p α H w1 x) (R2 : RepV p α H w2 y) (e : inW w1 w2 g = some k) (q : Q (.bl (if neg then !k else k)) H) :
    wpAny (model X.prog X.w) X.A (compareOp (if neg then .NotIn else .In) v u) (EP X pins σ Q) X.xe s := by
  have seqcase : ∀ {ws : List W} {a : Addr} {vs : List V}, y = .ref a → (SqL X.K H a vs ∨ SqT X.K H a vs) → RepVs p α H ws vs → (if (flatW w1 && ws.all flatW) = true then some (ws.any fun w => seqb w w1) else none) = some k →
      wpAny (model X.prog X.w) X.A (compareOp (if neg then .NotIn else .In) v u) (EP X pins σ Q) X.xe s := by
    intro ws a vs ey L r e
    subst ey
    split at e
    · rename_i c
      simp only [Bool.and_eq_true] at c
      cases e
      have e2 := any_seqb c.1 R1 c.2 r
      cases neg with
      | false => exact op_in_seq pins s σ H _ _ v u Q I rx ry ⟨a, vs, rfl, L, seq_flat c.1 R1, all_flat c.2 r, by rw [e2]; exact q⟩
      | true => exact op_notIn_seq pins s σ H _ _ v u Q I rx ry ⟨a, vs, rfl, L, seq_flat c.1 R1, all_flat c.2 r, by rw [e2]; exact q⟩
    · cases e
  cases w2 with
  | tup ws =>
    obtain ⟨a, vs, ey, T, r⟩ := R2.tup'
    exact seqcase ey (.inr (hK ▸ T)) r e
  | ref i =>
    obtain ⟨a, ey, ea⟩ := R2.ref'
    have dcase : ∀ {kvs : List (W × W)}, (∃ kvs', Rd H a (.dK kvs') ∧ RepKV p α H kvs kvs') → (if fits kvs w1 = true then some (getD kvs w1).isSome else none) = some k →
        wpAny (model X.prog X.w) X.A (compareOp (if neg then .NotIn else .In) v u) (EP X pins σ Q) X.xe s := by
      rintro kvs ⟨kvs', hd, r⟩ e
      subst ey
      split at e
      · rename_i c
        cases e
        obtain ⟨κ, hκ⟩ := fits_key c
        have hy := keyK_rep hκ R1
        subst hy
        have g0 : DGet H a (kV κ) (valV kvs' κ) := .inl ⟨kvs', κ, hd, rfl, rfl⟩
        have e3 : (getD kvs w1).isSome = (valV kvs' κ).isSome := by
          rcases RepKV.get hκ r with ⟨a1, a2⟩ | ⟨_, _, a1, a2, _⟩ <;> rw [a1, a2] <;> rfl
        rw [e3] at q
        cases neg with
        | false =>
          cases ry
          show wpAny _ _ (compareOp .In v (.ref a)) _ _ _
          exact d_in (A := X.A) (Q := EP X pins σ Q) (E := X.xe) (by omega) I g0 rx fun s' I' => ⟨.bl _, H, I', rfl, q⟩
        | true =>
          cases ry
          show wpAny _ _ (compareOp .NotIn v (.ref a)) _ _ _
          exact d_notIn (A := X.A) (Q := EP X pins σ Q) (E := X.xe) (by omega) I g0 rx fun s' I' => ⟨.bl _, H, I', rfl, q⟩
      · cases e
    simp only [inW] at e
    split at e
    · rename_i ws f
      obtain ⟨vs, h1, r⟩ := S.lst f ea
      exact seqcase ey (.inl (.of h1)) r e
    · rename_i kvs f
      exact dcase (S.dictR f (.inl rfl) ea) e
    · rename_i kvs f
      exact dcase (S.dictR f (.inr rfl) ea) e
    · cases e
  | str z =>
    simp only [inW] at e
    split at e
    · rename_i c
      cases e
      have hx := R1.str'
      have hy := R2.str'
      subst hx hy
      have e3 : z.contains c = decide (c ∈ (strV z).cps.toList) := by simp
      rw [e3] at q
      cases neg with
      | false => exact op_in_sign pins s σ H _ _ v u Q I rx ry ⟨c, strV z, rfl, rfl, q⟩
      | true => exact op_notIn_sign pins s σ H _ _ v u Q I rx ry ⟨c, strV z, rfl, rfl, q⟩
    · cases e
  | fd ks ws =>
    simp only [inW] at e
    split at e
    · rename_i z
      cases e
      obtain ⟨d, us, vs, ey, hd, rv, hl, hz, rs⟩ := R2.fd'
      obtain ⟨es, n, D⟩ := hkd d hd
      have hx := R1.str'
      subst hx ey
      have hq : PySem.W.nsIn X.K d (strV z) = some ((ks.zip us).lookup z) := hK ▸ hz z
      have e2 : (getFd ks ws z).isSome = ((ks.zip us).lookup z).isSome := by
        rcases fd_get (z := z) rv hl rs with ⟨a1, a2⟩ | ⟨_, _, _, a1, a2, _, _⟩ <;> rw [a1, a2] <;> rfl
      rw [e2] at q
      cases neg with
      | false => exact op_in_kd D pins s σ H _ _ v u Q I rx ry ⟨strV z, _, rfl, rfl, hq, q⟩
      | true => exact op_notIn_kd D pins s σ H _ _ v u Q I rx ry ⟨strV z, _, rfl, rfl, hq, q⟩
    · cases e
  | _ => simp [inW] at e
theorem op_eqW (hK : p.K = X.K) (hu : X.A.units + 64 < cLine) {pins : List (Addr × Obj)} {s : Shared} {σ : St} {x y : V} {v u : Value} {Q : VK} {g : G} {w1 w2 : W} {k : Bool} (neg : Bool) (I : Inv X pins σ H s) (rx : RelV x v) (ry : RelV y u)
    (S : Sim p α g H) (R1 : RepV p α H w1 x) (R2 : RepV p α H w2 y) (e : eqW w1 w2 g = some k) (q : Q (.bl (if neg then !k else k)) H) :
    wpAny (model X.prog X.w) X.A (compareOp (if neg then .NotEq else .Eq) v u) (EP X pins σ Q) X.xe s := by
  unfold eqW at e
  split at e
  · rename_i c
    cases e
    obtain ⟨c1, c2⟩ := scal_of c R1 R2
    rw [← c2] at q
    cases neg with
    | false => exact op_eq pins s σ H _ _ v u Q I rx ry ⟨c1, q⟩
    | true => exact op_ne pins s σ H _ _ v u Q I rx ry ⟨c1, q⟩
  · split at e
    · rename_i c
      simp only [Bool.and_eq_true] at c
      cases e
      rw [← eqv_of 60 w1 w2 c.1 c.2] at q
      cases neg with
      | false => exact op_eqD hu pins s σ H _ _ v u Q I rx ry ⟨_, _, hK ▸ dp_of S 60 w1 x c.1 R1, hK ▸ dp_of S 60 w2 y c.2 R2, shaped_of c.1, shaped_of c.2, q⟩
      | true => exact op_neD hu pins s σ H _ _ v u Q I rx ry ⟨_, _, hK ▸ dp_of S 60 w1 x c.1 R1, hK ▸ dp_of S 60 w2 y c.2 R2, shaped_of c.1, shaped_of c.2, q⟩
    · cases e
theorem op_cop (hK : p.K = X.K) (hkd : KdOk p X) (hu : X.A.units + 64 < cLine) (o : Cop) : OpR X (compareOp o.op) (rC p Wx o) := by
  rintro pins s σ H x y v u Q I rx ry ⟨α, g, w1, w2, σ', S, R1, R2, h⟩
  obtain ⟨k, e, q⟩ := c_post S h
  cases o with
  | eq => exact op_eqW hK hu false I rx ry S R1 R2 e q
  | ne =>
    simp only [Cop.run, Option.map_eq_some_iff] at e
    obtain ⟨k', e, rfl⟩ := e
    exact op_eqW hK hu true I rx ry S R1 R2 e q
  | in_ => exact op_in hK hkd hu false I rx ry S R1 R2 e q
  | notin =>
    simp only [Cop.run, Option.map_eq_some_iff] at e
    obtain ⟨k', e, rfl⟩ := e
    exact op_in hK hkd hu true I rx ry S R1 R2 e q
  | lt =>
    cases w1 <;> simp [Cop.run] at e <;> cases w2 <;> simp at e
    rw [R1.int'] at rx; rw [R2.int'] at ry
    exact op_lt pins s σ H _ _ v u Q I rx ry ⟨_, _, rfl, rfl, by show Q (.bl (decide (_ < _))) H; rw [e]; exact q⟩
  | le =>
    cases w1 <;> simp [Cop.run] at e <;> cases w2 <;> simp at e
    rw [R1.int'] at rx; rw [R2.int'] at ry
    exact op_le pins s σ H _ _ v u Q I rx ry ⟨_, _, rfl, rfl, by show Q (.bl (decide (_ ≤ _))) H; rw [e]; exact q⟩
  | gt =>
    cases w1 <;> simp [Cop.run] at e <;> cases w2 <;> simp at e
    rw [R1.int'] at rx; rw [R2.int'] at ry
    exact op_gt pins s σ H _ _ v u Q I rx ry ⟨_, _, rfl, rfl, by show Q (.bl (decide (_ < _))) H; rw [e]; exact q⟩
  | ge =>
    cases w1 <;> simp [Cop.run] at e <;> cases w2 <;> simp at e
    rw [R1.int'] at rx; rw [R2.int'] at ry
    exact op_ge pins s σ H _ _ v u Q I rx ry ⟨_, _, rfl, rfl, by show Q (.bl (decide (_ ≤ _))) H; rw [e]; exact q⟩
  | is_ =>
    cases w2 <;> simp [Cop.run] at e
    have hy := R2.non'
    subst hy
    refine op_isN pins s σ H _ _ v u Q I rx ry ⟨rfl, ?_⟩
    have : decide (x = .non) = k := by
      rw [← e]
      cases w1 <;> simp only [RepV] at R1 <;> first | (subst R1; rfl) | (obtain ⟨a, _, rfl, _⟩ := R1; rfl) | (obtain ⟨a, _, rfl, _, _⟩ := R1; rfl) | (obtain ⟨a, rfl, _⟩ := R1; rfl) | (obtain ⟨a, rfl⟩ := R1; rfl) | (obtain ⟨a, us, vs, rfl, _⟩ := R1; rfl)
    rw [this]; exact q
  | isnot =>
    cases w2 <;> simp [Cop.run] at e
    have hy := R2.non'
    subst hy
    refine op_notN pins s σ H _ _ v u Q I rx ry ⟨rfl, ?_⟩
    have : (!decide (x = .non)) = k := by
      rw [← e]
      cases w1 <;> simp only [RepV] at R1 <;> first | (subst R1; rfl) | (obtain ⟨a, _, rfl, _⟩ := R1; rfl) | (obtain ⟨a, _, rfl, _, _⟩ := R1; rfl) | (obtain ⟨a, rfl, _⟩ := R1; rfl) | (obtain ⟨a, rfl⟩ := R1; rfl) | (obtain ⟨a, us, vs, rfl, _⟩ := R1; rfl)
    rw [this]; exact q
/-! ### truth -/
def rT (p : Px) (Wx : WX) : V → Hp → (Bool → Hp → Prop) → Prop := fun x H Q => ∃ α g w σ, Sim p α g H ∧ RepV p α H w x ∧ post p Wx (fun _ _ b c => c = b) (R.of (truthW w g) g) α H σ Q
def TB : List Addr → Hp → Bool → Bool → Prop := fun _ _ b c => c = b
def szOk (w : W) : Prop := True
theorem tru_of (hK : p.K = X.K) {g : G} {w : W} {x : V} {k : Bool} (S : Sim p α g H) (R1 : RepV p α H w x) (e : truthW w g = some k) : TruV X.K x H k := by
  cases w with
  | non => rw [R1.non']; simp [truthW] at e; exact e.symm ▸ rfl
  | bl b => rw [R1.bl']; simp [truthW] at e; exact e ▸ rfl
  | int i => rw [R1.int']; simp [truthW] at e; show k = (i != 0); rw [← e]
  | str s =>
    rw [R1.str']
    simp [truthW] at e
    obtain ⟨e0, e⟩ := e
    refine ⟨by rw [strV_len]; exact Nat.le_trans e0 lim_line, ?_⟩
    rw [strV_len]
    cases s with
    | nil => cases k <;> simp at e ⊢
    | cons a r => cases k <;> simp at e ⊢ <;> omega
  | tup ws =>
    obtain ⟨a, vs, rfl, T, r⟩ := R1.tup'
    simp [truthW] at e
    refine .inr (.inl ⟨vs, hK ▸ T, ?_⟩)
    have := r.length
    cases ws <;> cases vs <;> simp at this ⊢ <;> cases k <;> simp at e ⊢
  | ref i =>
    obtain ⟨a, rfl, ea⟩ := R1.ref'
    simp only [truthW] at e
    have fin : ∀ {ws : List W} {vs : List V}, RepVs p α H ws vs → (!ws.isEmpty) = !vs.isEmpty := by
      intro ws vs r
      have := r.length
      cases ws <;> cases vs <;> simp at this ⊢
    split at e
    · rename_i ws f
      obtain ⟨vs, h1, r⟩ := S.lst f ea
      cases e
      exact .inl ⟨vs, .of h1, fin r⟩
    · rename_i kvs f
      obtain ⟨kvs', h1, r⟩ := S.dict f ea
      cases e
      refine .inr (.inr ⟨kvs', h1, ?_⟩)
      have := r.length
      cases kvs <;> cases kvs' <;> simp at this ⊢
    · cases e
  | fl ws =>
    obtain ⟨a, vs, rfl, L, r⟩ := R1.fl'
    simp [truthW] at e
    refine .inl ⟨vs, hK ▸ L.sq, ?_⟩
    have := r.length
    cases ws <;> cases vs <;> simp at this ⊢ <;> cases k <;> simp at e ⊢
  | exn _ => simp [truthW] at e
  | fd _ _ => simp [truthW] at e
end
end Dl

/-! DlE: the rules of expressions, each for the interpreter's reading. -/
namespace Dl
open PySem L2
theorem sizeLine_lim {n : Nat} (h : n ≤ lim) : n ≤ sizeLine := Nat.le_trans h lim_line
section
variable {p : Px} {Wx : WX} {X : Cx} {T : Tbl} {call : CallF}
/-- the reading of an expression -/
abbrev tV (p : Px) (Wx : WX) (T : Tbl) (call : CallF) (e : E) : TE := tE p Wx (ev T call e)
abbrev tQ (p : Px) (Wx : WX) (T : Tbl) (call : CallF) (e : E) : TT := tB p Wx (tst T call e)
abbrev tL (p : Px) (Wx : WX) (T : Tbl) (call : CallF) (e : EL) : TA := tA p Wx (evl T call e)

theorem e_cst {w : W} {e : Expr} {t : TE} (h : PE X e t) (hw : ∀ α H Q, (∀ v, RepV p α H w v → Q v H) → ∀ σ, t σ H Q) : PE X e (tV p Wx T call (.cst w)) :=
  PE.by fun σ H Q ⟨α, ρ, g, S, E, q⟩ => ⟨t, h, hw α H Q (fun v r => by simp only [ev] at q; exact post.ok q S r) σ⟩
theorem e_int {i : Int} {j : Nat} {pos : Pos} : PE X (.Constant (.int i) j pos) (tV p Wx T call (.cst (.int i))) := e_cst pe_int fun α H Q q σ => q _ .int
theorem e_bl {i : Bool} {j : Nat} {pos : Pos} : PE X (.Constant (.bool i) j pos) (tV p Wx T call (.cst (.bl i))) := e_cst pe_bl fun α H Q q σ => q _ .bl
theorem e_non {j : Nat} {pos : Pos} : PE X (.Constant .none j pos) (tV p Wx T call (.cst .non)) := e_cst pe_non fun α H Q q σ => q _ .non
theorem e_str {s : Str} {j : Nat} {pos : Pos} : PE X (.Constant (.str s) j pos) (tV p Wx T call (.cst (.str s.cps.toList))) := e_cst pe_str fun α H Q q σ => q _ (by simp only [RepV])
theorem e_var {i : Nat} {x : Str} {pos : Pos} (h : PE X (.Name x pos) (tVar i)) : PE X (.Name x pos) (tV p Wx T call (.var i)) := PE.by fun σ H Q ⟨α, ρ, g, S, E, q⟩ => by
  refine ⟨_, h, ?_⟩
  simp only [ev] at q
  split at q
  · rename_i w e
    obtain ⟨v, ev, r⟩ := E.at_ i w e
    exact ⟨v, ev, post.ok q S r⟩
  · exact q.elim
/-- a list of expressions -/
theorem a_nil : PA X [] (tL p Wx T call .nil) := PA.by fun σ H Q ⟨α, ρ, g, S, E, q⟩ => ⟨_, pa_nil, by simp only [evl] at q; exact post.ok q S RepVs.nil⟩
/-- the two parts of a row -/
theorem two {β γ δ ε ζ η : Type} {Rp : List Addr → Hp → β → γ → Prop} {Rq : List Addr → Hp → δ → ε → Prop} {f : Env → G → R δ} {k : Env → δ → G → R β} {σ : St} {H : Hp} {Q : γ → Hp → Prop}
    (h : tG p Wx Rp (fun ρ g => (f ρ g).bind (k ρ)) σ H Q) : tG p Wx Rq f σ H fun x H1 => ∃ α ρ g w, Sim p α g H1 ∧ SimSt p α H1 ρ σ ∧ Rq α H1 w x ∧ post p Wx Rp (k ρ w g) α H1 σ Q := by
  obtain ⟨α, ρ, g, S, E, q⟩ := h
  exact ⟨α, ρ, g, S, E, (post.bind (Rq := Rq) q).imp fun x H1 _ ⟨α1, g1, w, K1, S1, r, q1⟩ => ⟨α1, ρ, g1, w, S1, E.mono K1, r, q1⟩⟩
theorem a_cons {e : Expr} {es : List Expr} {e' : E} {es' : EL} (h1 : PE X e (tV p Wx T call e')) (h2 : PA X es (tL p Wx T call es')) (hs : starEach (e :: es) X.env = (false, eval e X.env) :: starEach es X.env) : PA X (e :: es) (tL p Wx T call (.cons e' es')) :=
  PA.by fun σ H Q ⟨α, ρ, g, S, E, q⟩ => by
    refine ⟨_, pa_cons h1 h2 hs, α, ρ, g, S, E, ?_⟩
    simp only [evl] at q
    refine (post.bind (Rq := RepV p) q).imp fun x H1 _ ⟨α1, g1, w, K1, S1, r, q1⟩ => ⟨α1, ρ, g1, S1, E.mono K1, ?_⟩
    refine (post.bind (Rq := RepVs p) q1).imp fun xs H2 k2 ⟨α2, g2, ws, K2, S2, rs, q2⟩ => ?_
    exact post.ok q2 S2 (.cons (r.mono K2) rs)
theorem evl_len {es : EL} : True := trivial
theorem e_tup {es : List Expr} {es' : EL} {k : Nat} {pos : Pos} (h : PA X es (tL p Wx T call es')) (hl : es.length ≤ lim) (hn : ∀ {ρ g ws g'}, evl T call es' ρ g = .ok ws g' → ws.length = es.length) : PE X (.Tuple es k pos) (tV p Wx T call (.tup es')) :=
  PE.by fun σ H Q ⟨α, ρ, g, S, E, q⟩ => by
    refine ⟨_, pe_tup h, α, ρ, g, S, E, ?_⟩
    simp only [ev] at q
    cases hr : evl T call es' ρ g with
    | ok ws g1 =>
      rw [hr] at q
      have l := hn hr
      intro α1 H1 vs K1 S1 rs
      refine ⟨by rw [← rs.length, l]; exact sizeLine_lim hl, fun q1 hq => ?_⟩
      have q' : post p Wx (RepV p) (.ok (.tup ws) g1) α1 H1 σ Q := post.mono q K1
      exact q'.newT S1 rs hq
    | exc c g1 => rw [hr] at q; exact q
    | err => rw [hr] at q; exact q
theorem e_lst {es : List Expr} {es' : EL} {pos : Pos} (h : PA X es (tL p Wx T call es')) (hl : es.length ≤ lim) (hn : ∀ {ρ g ws g'}, evl T call es' ρ g = .ok ws g' → ws.length = es.length) : PE X (.List es pos) (tV p Wx T call (.lst es')) :=
  PE.by fun σ H Q ⟨α, ρ, g, S, E, q⟩ => by
    refine ⟨_, pe_lst h, α, ρ, g, S, E, ?_⟩
    simp only [ev] at q
    cases hr : evl T call es' ρ g with
    | ok ws g1 =>
      rw [hr] at q
      have l := hn hr
      intro α1 H1 vs K1 S1 rs
      refine ⟨by rw [← rs.length, l]; exact sizeLine_lim hl, fun q1 hq => ?_⟩
      have q' : post p Wx (RepV p) (.ok (.ref g1.length) (g1 ++ [.lst ws])) α1 H1 σ Q := post.mono q K1
      exact q'.newL S1 rs hq
    | exc c g1 => rw [hr] at q; exact q
    | err => rw [hr] at q; exact q
theorem e_bop {o : Bop} {a b : Expr} {a' b' : E} {pos : Pos} (hK : p.K = X.K) (h1 : PE X a (tV p Wx T call a')) (h2 : PE X b (tV p Wx T call b')) : PE X (.BinOp a o.op b pos) (tV p Wx T call (.bop o a' b')) :=
  PE.by fun σ H Q ⟨α, ρ, g, S, E, q⟩ => by
    refine ⟨_, pe_op (op_bop (Wx := Wx) hK o) h1 h2, α, ρ, g, S, E, ?_⟩
    simp only [ev] at q
    refine (post.bind (Rq := RepV p) q).imp fun x H1 _ ⟨α1, g1, w, K1, S1, r, q1⟩ => ⟨α1, ρ, g1, S1, E.mono K1, ?_⟩
    exact (post.bind (Rq := RepV p) q1).imp fun y H2 _ ⟨α2, g2, u, K2, S2, r2, q2⟩ => ⟨α2, g2, w, u, σ, S2, r.mono K2, r2, q2⟩
theorem e_neg {a : Expr} {a' : E} {pos : Pos} (h1 : PE X a (tV p Wx T call a')) : PE X (.UnaryOp .USub a pos) (tV p Wx T call (.neg a')) :=
  PE.by fun σ H Q ⟨α, ρ, g, S, E, q⟩ => by
    refine ⟨_, pe_un un_neg h1, α, ρ, g, S, E, ?_⟩
    simp only [ev] at q
    refine (post.bind (Rq := RepV p) q).imp fun x H1 _ ⟨α1, g1, w, K1, S1, r, q1⟩ => ?_
    split at q1
    · rename_i i; exact ⟨i, r.int', post.ok q1 S1 .int⟩
    · exact q1.elim
theorem e_not {a : Expr} {a' : E} {pos : Pos} (h1 : PE X a (tV p Wx T call a')) : PE X (.UnaryOp .Not a pos) (tV p Wx T call (.not a')) :=
  PE.by fun σ H Q ⟨α, ρ, g, S, E, q⟩ => by
    refine ⟨_, pe_not h1, α, ρ, g, S, E, ?_⟩
    simp only [ev] at q
    refine (post.bind (Rq := RepV p) q).imp fun x H1 _ ⟨α1, g1, w, K1, S1, r, q1⟩ => ?_
    split at q1
    · rename_i i; exact ⟨i, r.bl', post.ok q1 S1 .bl⟩
    · exact q1.elim
theorem e_cmp {o : Cop} {a b : Expr} {a' b' : E} {pos : Pos} (hK : p.K = X.K) (hkd : KdOk p X) (hu : X.A.units + 64 < cLine) (h1 : PE X a (tV p Wx T call a')) (h2 : PE X b (tV p Wx T call b')) (hm : behindInMarks o.op b = false) : PE X (.Compare a [o.op] [b] pos) (tV p Wx T call (.cmp o a' b')) :=
  PE.by fun σ H Q ⟨α, ρ, g, S, E, q⟩ => by
    refine ⟨_, pe_cmpR (op_cop (Wx := Wx) hK hkd hu o) h1 h2 hm, α, ρ, g, S, E, ?_⟩
    simp only [ev] at q
    refine (post.bind (Rq := RepV p) q).imp fun x H1 _ ⟨α1, g1, w, K1, S1, r, q1⟩ => ⟨α1, ρ, g1, S1, E.mono K1, ?_⟩
    exact (post.bind (Rq := RepV p) q1).imp fun y H2 _ ⟨α2, g2, u, K2, S2, r2, q2⟩ => ⟨α2, g2, w, u, σ, S2, r.mono K2, r2, q2⟩
/-- the comparison's reading, then k -/
theorem chain_go {o o' : Cop} {a b c : E} {σ : St} {H : Hp} {Q : VK} (h : tV p Wx T call (.chain o o' a b c) σ H Q) : tChain (rC p Wx o) (rC p Wx o') (tV p Wx T call a) (tV p Wx T call b) (tV p Wx T call c) σ H Q := by
  obtain ⟨α, ρ, g, S, E, q⟩ := h
  refine ⟨α, ρ, g, S, E, ?_⟩
  simp only [ev] at q
  refine (post.bind (Rq := RepV p) q).imp fun x H1 _ ⟨α1, g1, w, K1, S1, r, q1⟩ => ⟨α1, ρ, g1, S1, E.mono K1, ?_⟩
  refine (post.bind (Rq := RepV p) q1).imp fun y H2 _ ⟨α2, g2, u, K2, S2, r2, q2⟩ => ?_
  refine ⟨α2, g2, w, u, σ, S2, r.mono K2, r2, ?_⟩
  cases hr : o.run w u g2 with
  | none => rw [hr] at q2; exact q2
  | some k =>
    rw [hr] at q2
    intro α3 H3 z K3 S3 rz
    refine ⟨k, rz.bl', ?_⟩
    have q3 := post.mono q2 K3
    cases k with
    | false => exact post.ok q3 S3 .bl
    | true =>
      refine ⟨α3, ρ, g2, S3, (E.mono (K1.trans K2)).mono K3, ?_⟩
      exact (post.bind (Rq := RepV p) q3).imp fun z' H4 _ ⟨α4, g4, u4, K4, S4, r4, q4⟩ => ⟨α4, g4, u, u4, σ, S4, (r2.mono K3).mono K4, r4, q4⟩
theorem e_chain {o o' : Cop} {a b c : Expr} {a' b' c' : E} {pos : Pos} (hK : p.K = X.K) (hkd : KdOk p X) (hu : X.A.units + 64 < cLine) (h1 : PE X a (tV p Wx T call a')) (h2 : PE X b (tV p Wx T call b')) (h3 : PE X c (tV p Wx T call c')) (hm : lastMarks [o.op, o'.op] [b, c] = false) :
    PE X (.Compare a [o.op, o'.op] [b, c] pos) (tV p Wx T call (.chain o o' a' b' c')) :=
  PE.by fun σ H Q h => ⟨_, pe_chain (op_cop (Wx := Wx) hK hkd hu o) (op_cop (Wx := Wx) hK hkd hu o') h1 h2 h3 hm, chain_go h⟩
theorem e_and {a b : Expr} {r : List Expr} {a' b' : E} {pos : Pos} (h1 : PE X a (tV p Wx T call a')) (h2 : PE X (.BoolOp .And (b :: r) pos) (tV p Wx T call b')) : PE X (.BoolOp .And (a :: b :: r) pos) (tV p Wx T call (.and a' b')) :=
  PE.by fun σ H Q ⟨α, ρ, g, S, E, q⟩ => by
    refine ⟨_, pe_and h1 h2, α, ρ, g, S, E, ?_⟩
    simp only [ev] at q
    refine (post.bind (Rq := RepV p) q).imp fun x H1 _ ⟨α1, g1, w, K1, S1, r, q1⟩ => ?_
    split at q1
    · exact ⟨true, r.bl', by rw [if_pos rfl]; exact ⟨α1, ρ, g1, S1, E.mono K1, q1⟩⟩
    · exact ⟨false, r.bl', by rw [if_neg (by decide)]; exact post.ok q1 S1 .bl⟩
    · exact q1.elim
theorem e_or {a b : Expr} {r : List Expr} {a' b' : E} {pos : Pos} (h1 : PE X a (tV p Wx T call a')) (h2 : PE X (.BoolOp .Or (b :: r) pos) (tV p Wx T call b')) : PE X (.BoolOp .Or (a :: b :: r) pos) (tV p Wx T call (.or a' b')) :=
  PE.by fun σ H Q ⟨α, ρ, g, S, E, q⟩ => by
    refine ⟨_, pe_or h1 h2, α, ρ, g, S, E, ?_⟩
    simp only [ev] at q
    refine (post.bind (Rq := RepV p) q).imp fun x H1 _ ⟨α1, g1, w, K1, S1, r, q1⟩ => ?_
    split at q1
    · exact ⟨true, r.bl', by rw [if_pos rfl]; exact post.ok q1 S1 .bl⟩
    · exact ⟨false, r.bl', by rw [if_neg (by decide)]; exact ⟨α1, ρ, g1, S1, E.mono K1, q1⟩⟩
    · exact q1.elim
theorem e_ife {c a b : Expr} {c' a' b' : E} {pos : Pos} (h0 : PT X c (tQ p Wx T call c')) (h1 : PE X a (tV p Wx T call a')) (h2 : PE X b (tV p Wx T call b')) : PE X (.IfExp c a b pos) (tV p Wx T call (.ife c' a' b')) :=
  PE.by fun σ H Q ⟨α, ρ, g, S, E, q⟩ => by
    refine ⟨_, pe_ifExp h0 h1 h2, α, ρ, g, S, E, ?_⟩
    simp only [ev] at q
    refine (post.bind (Rq := TB) q).imp fun x H1 _ ⟨α1, g1, w, K1, S1, r, q1⟩ => ?_
    have r : x = w := r
    subst r
    cases x with
    | true => rw [if_pos rfl]; exact ⟨α1, ρ, g1, S1, E.mono K1, q1⟩
    | false => rw [if_neg (by decide)]; exact ⟨α1, ρ, g1, S1, E.mono K1, q1⟩
/-! ### tests -/
theorem t_and {a b : Expr} {r : List Expr} {a' b' : E} {pos : Pos} (h1 : PT X a (tQ p Wx T call a')) (h2 : PW X (.BoolOp .And (b :: r) pos) (tQ p Wx T call b')) : PW X (.BoolOp .And (a :: b :: r) pos) (tQ p Wx T call (.and a' b')) :=
  ⟨fun wh pins s σ H Q I ⟨α, ρ, g, S, E, q⟩ => by
    refine (pw_and h1 h2).run wh pins s σ H Q I ⟨α, ρ, g, S, E, ?_⟩
    simp only [tst] at q
    refine (post.bind (Rq := TB) q).imp fun x H1 _ ⟨α1, g1, w, K1, S1, r, q1⟩ => ?_
    have r : x = w := r
    subst r
    cases x with
    | true => rw [if_pos rfl]; exact ⟨α1, ρ, g1, S1, E.mono K1, q1⟩
    | false => rw [if_neg (by decide)]; exact post.ok q1 S1 rfl⟩
theorem t_or {a b : Expr} {r : List Expr} {a' b' : E} {pos : Pos} (h1 : PT X a (tQ p Wx T call a')) (h2 : PW X (.BoolOp .Or (b :: r) pos) (tQ p Wx T call b')) : PW X (.BoolOp .Or (a :: b :: r) pos) (tQ p Wx T call (.or a' b')) :=
  ⟨fun wh pins s σ H Q I ⟨α, ρ, g, S, E, q⟩ => by
    refine (pw_or h1 h2).run wh pins s σ H Q I ⟨α, ρ, g, S, E, ?_⟩
    simp only [tst] at q
    refine (post.bind (Rq := TB) q).imp fun x H1 _ ⟨α1, g1, w, K1, S1, r, q1⟩ => ?_
    have r : x = w := r
    subst r
    cases x with
    | true => rw [if_pos rfl]; exact post.ok q1 S1 rfl
    | false => rw [if_neg (by decide)]; exact ⟨α1, ρ, g1, S1, E.mono K1, q1⟩⟩
theorem t_not {a : Expr} {a' : E} {pos : Pos} (h1 : PT X a (tQ p Wx T call a')) : PT X (.UnaryOp .Not a pos) (tQ p Wx T call (.not a')) :=
  PT.by fun σ H Q ⟨α, ρ, g, S, E, q⟩ => by
    refine ⟨_, pt_not h1, α, ρ, g, S, E, ?_⟩
    simp only [tst] at q
    refine (post.bind (Rq := TB) q).imp fun x H1 _ ⟨α1, g1, w, K1, S1, r, q1⟩ => ?_
    have r : x = w := r
    subst r
    exact post.ok q1 S1 rfl
/-- a value's truth, for what is no and, or, not -/
def plainT : E → Bool
  | .and _ _ | .or _ _ | .not _ => false
  | _ => true
theorem tst_plain {e : E} (h : plainT e = true) (ρ : Env) (g : G) : tst T call e ρ g = (ev T call e ρ g).bind fun x g1 => R.of (truthW x g1) g1 := by
  cases e <;> first | (simp only [tst]; done) | (simp [plainT] at h; done)
theorem t_truth {a : Expr} {a' : E} (hK : p.K = X.K) (hp : plainT a' = true) (h1 : PE X a (tV p Wx T call a')) (he : ∀ whole, isTrue a X.env whole = (do let v ← whole; standAt a.pos; holding [v] (truthy v))) : PT X a (tQ p Wx T call a') :=
  PT.by fun σ H Q ⟨α, ρ, g, S, E, q⟩ => by
    refine ⟨_, pt_truth h1 he, α, ρ, g, S, E, ?_⟩
    rw [tst_plain hp] at q
    refine (post.bind (Rq := RepV p) q).imp fun x H1 _ ⟨α1, g1, w, K1, S1, r, q1⟩ => ?_
    obtain ⟨k, e, q2⟩ := post.of q1
    exact ⟨k, tru_of hK S1 r e, post.ok q2 S1 rfl⟩
/-- a comparison's value is a bool -/
theorem t_cmp {o : Cop} {a b : Expr} {a' b' : E} {pos : Pos} (hK : p.K = X.K) (hkd : KdOk p X) (hu : X.A.units + 64 < cLine) (h1 : PE X a (tV p Wx T call a')) (h2 : PE X b (tV p Wx T call b')) (hm : behindInMarks o.op b = false) : PT X (.Compare a [o.op] [b] pos) (tQ p Wx T call (.cmp o a' b')) :=
  PT.by fun σ H Q ⟨α, ρ, g, S, E, q⟩ => by
    refine ⟨_, pt_cmpR (op_cop (Wx := Wx) hK hkd hu o) h1 h2 hm, α, ρ, g, S, E, ?_⟩
    rw [tst_plain rfl] at q
    simp only [ev] at q
    cases e1 : ev T call a' ρ g with
    | err => rw [e1] at q; exact q
    | exc c g1 => rw [e1] at q; exact q
    | ok w g1 =>
      rw [e1] at q
      intro α1 H1 x K1 S1 r
      refine ⟨α1, ρ, g1, S1, E.mono K1, ?_⟩
      have q := post.mono q K1
      simp only [R.bind] at q
      cases e2 : ev T call b' ρ g1 with
      | err => rw [e2] at q; exact q
      | exc c g1 => rw [e2] at q; exact q
      | ok u g2 =>
        rw [e2] at q
        intro α2 H2 y K2 S2 r2
        refine ⟨α2, g2, w, u, σ, S2, r.mono K2, r2, ?_⟩
        have q := post.mono q K2
        simp only [R.bind] at q
        cases e3 : o.run w u g2 with
        | none => rw [e3] at q; exact q
        | some k =>
          rw [e3] at q
          intro α3 H3 z K3 S3 r3
          exact ⟨k, r3.bl', post.ok (post.mono q K3) S3 rfl⟩
theorem t_chain {o o' : Cop} {a b c : Expr} {a' b' c' : E} {pos : Pos} (hK : p.K = X.K) (hkd : KdOk p X) (hu : X.A.units + 64 < cLine) (h1 : PE X a (tV p Wx T call a')) (h2 : PE X b (tV p Wx T call b')) (h3 : PE X c (tV p Wx T call c')) (hm : lastMarks [o.op, o'.op] [b, c] = false) :
    PT X (.Compare a [o.op, o'.op] [b, c] pos) (tQ p Wx T call (.chain o o' a' b' c')) :=
  PT.by fun σ H Q ⟨α, ρ, g, S, E, q⟩ => by
    refine ⟨_, pt_chain (op_cop (Wx := Wx) hK hkd hu o) (op_cop (Wx := Wx) hK hkd hu o') h1 h2 h3 hm, ?_⟩
    refine chain_go (p := p) (Wx := Wx) (T := T) (call := call) (Q := fun x H' => ∃ k, x = .bl k ∧ Q k H') ⟨α, ρ, g, S, E, ?_⟩
    rw [tst_plain rfl] at q
    have bl : ∀ w g', ev T call (.chain o o' a' b' c') ρ g = .ok w g' → ∃ k, w = .bl k := by
      intro w g' h
      simp only [ev] at h
      cases e1 : ev T call a' ρ g <;> rw [e1] at h <;> simp only [R.bind] at h <;> try cases h
      rename_i w1 g1
      cases e2 : ev T call b' ρ g1 <;> rw [e2] at h <;> simp only at h <;> try cases h
      rename_i w2 g2
      cases e3 : o.run w1 w2 g2 <;> rw [e3] at h <;> simp only [R.of] at h <;> try cases h
      rename_i k
      cases k with
      | false => simp only at h; cases h; exact ⟨_, rfl⟩
      | true =>
        simp only at h
        cases e4 : ev T call c' ρ g2 <;> rw [e4] at h <;> simp only at h <;> try cases h
        rename_i w4 g4
        cases e5 : o'.run w2 w4 g4 <;> rw [e5] at h <;> simp only [Option.map] at h <;> try cases h
        exact ⟨_, rfl⟩
    cases e1 : ev T call (.chain o o' a' b' c') ρ g with
    | err => rw [e1] at q; exact q
    | exc c g1 => rw [e1] at q; exact q
    | ok w g1 =>
      obtain ⟨k, rfl⟩ := bl w g1 e1
      rw [e1] at q
      intro α1 H1 x K1 S1 r
      exact ⟨k, r.bl', post.ok (post.mono q K1) S1 rfl⟩
end
end Dl

/-! DlF: subscripts, slices, fields, calls, built-ins. -/
namespace Dl
open PySem L2
section
variable {p : Px} {Wx : WX} {X : Cx} {T : Tbl} {call : CallF}
/-! ### subscripts -/
theorem atI_rep {α : List Addr} {H : Hp} {ws : List W} {vs : List V} {i : Int} {w : W} (r : RepVs p α H ws vs) (e : atW ws i = some w) : ∃ v, atI vs i = some v ∧ RepV p α H w v := by
  unfold atW at e
  have hl := r.length
  cases h : ixW ws.length i with
  | none => rw [h] at e; cases e
  | some j =>
    rw [h] at e
    obtain ⟨v, e1, e2⟩ := r.get e
    refine ⟨v, ?_, e2⟩
    unfold atI
    have : ixN vs.length i = some j := by rw [← hl]; exact h
    rw [this]
    exact e1
theorem e_idx {a b : Expr} {a' b' : E} {pos : Pos} (hK : p.K = X.K) (hkd : KdOk p X) (hu : X.A.units + 64 < cLine) (h1 : PE X a (tV p Wx T call a')) (h2 : PE X b (tV p Wx T call b')) (hs : PlainIx b) : PE X (.Subscript a b pos) (tV p Wx T call (.idx a' b')) :=
  PE.by fun σ H Q ⟨α, ρ, g, S, E, q⟩ => by
    simp only [ev] at q
    have key : ∀ t, (PE X (.Subscript a b pos) (tOp t (tV p Wx T call a') (tV p Wx T call b'))) → (∀ x y H2 α2 g2 w u, Sim p α2 g2 H2 → RepV p α2 H2 w x → RepV p α2 H2 u y → post p Wx (RepV p) (match w, u with
        | .tup ws, .int i => R.of (atW ws i) g2
        | .fl ws, .int i => R.of (atW ws i) g2
        | .str s, .int i => if s.length ≤ lim then R.of ((atW s i).map fun c => W.str [c]) g2 else .err
        | .fd ks us, .str z => R.of (getFd ks us z) g2
        | .ref p, y => match g2[p]?, y with
          | some (.lst ws), .int i => R.of (atW ws i) g2
          | some (.dct kvs), k => if fits kvs k then R.of (getD kvs k) g2 else .err
          | some (.fz kvs), k => if fits kvs k then R.of (getD kvs k) g2 else .err
          | _, _ => .err
        | _, _ => .err) α2 H2 σ Q → t x y H2 Q) → ∃ t', PE X (.Subscript a b pos) t' ∧ t' σ H Q := by
      intro t d hd
      refine ⟨_, d, α, ρ, g, S, E, ?_⟩
      refine (post.bind (Rq := RepV p) q).imp fun x H1 _ ⟨α1, g1, w, K1, S1, r, q1⟩ => ⟨α1, ρ, g1, S1, E.mono K1, ?_⟩
      exact (post.bind (Rq := RepV p) q1).imp fun y H2 _ ⟨α2, g2, u, K2, S2, r2, q2⟩ => hd x y H2 α2 g2 w u S2 (r.mono K2) r2 q2
    refine key (fun x y H Q => (rIx X.K x y H Q ∨ (∃ a v, x = .ref a ∧ DGet H a y (some v) ∧ Q v H)) ∨ rIxD X.K X.w x y H Q) ?_ ?_
    · refine pe_ix (IxR.or (IxR.or ix_seq ?_) ix_kdict) h1 h2 hs
      intro value slice pins s σ H x y v u Q I rx ry ⟨a, w, ex, d, q⟩ hsl
      subst ex
      cases rx
      exact PyProof.Rows.tail_any (dict_typeIs I d) PySem.F.slot_dict_getitem.lookup (d_getItem (by omega) I d ry fun w' s' I' r' => ⟨_, _, I', r', q⟩) hsl
    · intro x y H2 α2 g2 w u S2 r r2 q2
      split at q2
      · rename_i ws i
        obtain ⟨w, e, q3⟩ := post.of q2
        obtain ⟨a, vs, rfl, TT, rs⟩ := r.tup'
        obtain ⟨v, e1, e2⟩ := atI_rep rs e
        exact .inl (.inl (.inr (.inl ⟨a, vs, i, v, rfl, r2.int', hK ▸ TT, e1, post.ok q3 S2 e2⟩)))
      · rename_i ws i
        obtain ⟨w, e, q3⟩ := post.of q2
        obtain ⟨a, vs, rfl, L, rs⟩ := r.fl'
        obtain ⟨v, e1, e2⟩ := atI_rep rs e
        exact .inl (.inl (.inl ⟨a, vs, i, v, rfl, r2.int', hK ▸ L.sq, e1, post.ok q3 S2 e2⟩))
      · rename_i s i
        split at q2
        · rename_i hc
          obtain ⟨w, e, q3⟩ := post.of q2
          cases h : atW s i with
          | none => rw [h] at e; cases e
          | some c =>
            rw [h] at e
            cases e
            refine .inl (.inl (.inr (.inr ⟨strV s, i, c, r.str', r2.int', ?_, ?_, post.ok q3 S2 .str⟩)))
            · rw [strV_len]; exact sizeLine_lim hc
            · have h' : (ixN s.length i).bind (fun j => s[j]?) = some c := h
              unfold atI
              simpa using h'
        · exact q2.elim
      · rename_i ks us z
        obtain ⟨w, e, q3⟩ := post.of q2
        obtain ⟨d, vl, vs, rfl, hd, rv, hl, hz, rs⟩ := r.fd'
        obtain ⟨es, n, D⟩ := hkd d hd
        rcases fd_get (z := z) rv hl rs with ⟨a1, a2⟩ | ⟨w', v', u', a1, a2, a3, a4⟩
        · rw [a1] at e; cases e
        · rw [a1] at e; cases e
          refine .inr ⟨d, strV z, v', rfl, r2.str', ⟨es, n, u', D.at_, D.lit, ?_, a3⟩, post.ok q3 S2 a4⟩
          have := hz z
          rw [a2] at this
          exact hK ▸ this
      · rename_i i y'
        obtain ⟨a, rfl, ea⟩ := r.ref'
        split at q2
        · rename_i ws i f
          obtain ⟨w, e, q3⟩ := post.of q2
          obtain ⟨vs, h1, rs⟩ := S2.lst f ea
          obtain ⟨v, e1, e2⟩ := atI_rep rs e
          exact .inl (.inl (.inl ⟨a, vs, i, v, rfl, r2.int', .of h1, e1, post.ok q3 S2 e2⟩))
        · rename_i kvs f
          split at q2
          · rename_i c
            obtain ⟨w, e, q3⟩ := post.of q2
            obtain ⟨κ, hκ⟩ := fits_key c
            obtain ⟨kvs', hd, rr⟩ := S2.dict f ea
            have hy := keyK_rep hκ r2
            rcases RepKV.get hκ rr with ⟨a1, a2⟩ | ⟨w', v', a1, a2, a3⟩
            · rw [a1] at e; cases e
            · rw [a1] at e; cases e
              refine .inl (.inr ⟨a, v', rfl, ?_, post.ok q3 S2 a3⟩)
              rw [hy, ← a2]
              exact .k hd
          · exact q2.elim
        · rename_i kvs f
          split at q2
          · rename_i c
            obtain ⟨w, e, q3⟩ := post.of q2
            obtain ⟨κ, hκ⟩ := fits_key c
            obtain ⟨kvs', hd, rr⟩ := S2.dictR f (.inr rfl) ea
            have hy := keyK_rep hκ r2
            rcases RepKV.get hκ rr with ⟨a1, a2⟩ | ⟨w', v', a1, a2, a3⟩
            · rw [a1] at e; cases e
            · rw [a1] at e; cases e
              refine .inl (.inr ⟨a, v', rfl, ?_, post.ok q3 S2 a3⟩)
              rw [hy, ← a2]
              exact .inl ⟨kvs', κ, hd, rfl, rfl⟩
          · exact q2.elim
        · exact q2.elim
      · exact q2.elim
/-! ### slices -/
theorem cut_rep {α : List Addr} {H : Hp} {ws : List W} {vs : List V} (r : RepVs p α H ws vs) (lo hi : Option Int) : RepVs p α H (cutW ws lo hi) (cutV vs lo hi) := by
  unfold cutW cutV
  rw [r.length]
  exact (r.drop _).take _
theorem cut_str (s : List Nat) (lo hi : Option Int) : L2.cutS (strV s) lo hi = strV (cutW s lo hi) := by
  unfold L2.cutS cutW
  simp only [strV_len]
  rfl
/-- a slice of a list, a tuple, a text -/
def rSl (p : Px) (Wx : WX) : V → Option Int → Option Int → Hp → VK → Prop := fun x lo hi H Q => ∃ α g w σ, Sim p α g H ∧ RepV p α H w x ∧ post p Wx (RepV p) (match w with
    | .tup ws => .ok (.tup (cutW ws lo hi)) g
    | .str s => if s.length ≤ lim then .ok (.str (cutW s lo hi)) g else .err
    | .ref q => match g[q]? with
      | some (.lst ws) => .ok (.ref g.length) (g ++ [.lst (cutW ws lo hi)])
      | _ => .err
    | _ => .err) α H σ Q
theorem cut_all {ws : List W} {lo hi : Option Int} (h : cutIx ws.length 0 lo = 0 ∧ cutIx ws.length ws.length hi = ws.length) : cutW ws lo hi = ws := by
  unfold cutW
  rw [h.1, h.2]
  simp
theorem sl_any (hK : p.K = X.K) : SlR X (rSl p Wx) := by
  rintro pins s σ H x v vl vu lo hi sl Q I rx hs pl pu ⟨α, g, w, σ', S, R1, q⟩
  cases w with
  | tup ws =>
    obtain ⟨a, vs, rfl, TT, rs⟩ := R1.tup'
    refine sl_tupA pins s σ H _ v vl vu lo hi sl Q I rx hs pl pu ⟨a, vs, rfl, hK ▸ TT, fun hw => ?_, fun hw q1 hq => ?_⟩
    · have hl := rs.length
      have : cutW ws lo hi = ws := cut_all (by rw [hl]; exact hw)
      simp only [this] at q
      exact post.ok q S R1
    · exact post.newT q S (cut_rep rs lo hi) hq
  | str z =>
    simp only at q
    split at q
    · rename_i hc
      rw [R1.str'] at rx
      refine sl_str pins s σ H _ v vl vu lo hi sl Q I rx hs pl pu ⟨strV z, rfl, by rw [strV_len]; exact sizeLine_lim hc, ?_⟩
      rw [cut_str]
      exact post.ok q S .str
    · exact q.elim
  | ref i =>
    obtain ⟨a, rfl, ea⟩ := R1.ref'
    simp only at q
    split at q
    · rename_i ws f
      obtain ⟨vs, h1, rs⟩ := S.lst f ea
      exact sl_list pins s σ H _ v vl vu lo hi sl Q I rx hs pl pu ⟨a, vs, rfl, .of h1, fun q1 hq => post.newL q S (cut_rep rs lo hi) hq⟩
    · exact q.elim
  | _ => exact q.elim
theorem e_slo {a lo : Expr} {a' lo' : E} {pos p2 : Pos} (hK : p.K = X.K) (h1 : PE X a (tV p Wx T call a')) (h2 : PE X lo (tV p Wx T call lo')) : PE X (.Subscript a (.Slice (some lo) none none p2) pos) (tV p Wx T call (.slo a' lo')) :=
  PE.by fun σ H Q ⟨α, ρ, g, S, E, q⟩ => by
    refine ⟨_, pe_slice (sl_any (Wx := Wx) hK) h1 (po_some h2) po_none, α, ρ, g, S, E, ?_⟩
    simp only [ev] at q
    refine (post.bind (Rq := RepV p) q).imp fun x H1 _ ⟨α1, g1, w, K1, S1, r, q1⟩ => ⟨α1, ρ, g1, S1, E.mono K1, ?_⟩
    refine (post.bind (Rq := RepV p) q1).imp fun y H2 _ ⟨α2, g2, u, K2, S2, r2, q2⟩ => ?_
    cases u with
    | int i =>
      refine ⟨i, r2.int', α2, g2, w, σ, S2, r.mono K2, ?_⟩
      cases w <;> first | exact q2 | (simp only at q2; exact q2.elim) | skip
      all_goals (simp only at q2 ⊢; split at q2 <;> first | exact q2 | exact q2.elim | (rename_i hh; rw [hh]; exact q2) | skip)
      all_goals (rename_i hh; simp only [hh]; exact q2)
    | _ => cases w <;> exact q2.elim
theorem e_shi {a hi : Expr} {a' hi' : E} {pos p2 : Pos} (hK : p.K = X.K) (h1 : PE X a (tV p Wx T call a')) (h2 : PE X hi (tV p Wx T call hi')) : PE X (.Subscript a (.Slice none (some hi) none p2) pos) (tV p Wx T call (.shi a' hi')) :=
  PE.by fun σ H Q ⟨α, ρ, g, S, E, q⟩ => by
    refine ⟨_, pe_slice (sl_any (Wx := Wx) hK) h1 po_none (po_some h2), α, ρ, g, S, E, ?_⟩
    simp only [ev] at q
    refine (post.bind (Rq := RepV p) q).imp fun x H1 _ ⟨α1, g1, w, K1, S1, r, q1⟩ => ⟨α1, ρ, g1, S1, E.mono K1, ?_⟩
    refine (post.bind (Rq := RepV p) q1).imp fun y H2 _ ⟨α2, g2, u, K2, S2, r2, q2⟩ => ?_
    cases u with
    | int i =>
      refine ⟨i, r2.int', α2, g2, w, σ, S2, r.mono K2, ?_⟩
      cases w <;> first | exact q2 | (simp only at q2; exact q2.elim) | skip
      all_goals (simp only at q2 ⊢; split at q2 <;> first | exact q2 | exact q2.elim | (rename_i hh; rw [hh]; exact q2) | skip)
      all_goals (rename_i hh; simp only [hh]; exact q2)
    | _ => cases w <;> exact q2.elim
theorem e_slh {a lo hi : Expr} {a' lo' hi' : E} {pos p2 : Pos} (hK : p.K = X.K) (h1 : PE X a (tV p Wx T call a')) (h2 : PE X lo (tV p Wx T call lo')) (h3 : PE X hi (tV p Wx T call hi')) : PE X (.Subscript a (.Slice (some lo) (some hi) none p2) pos) (tV p Wx T call (.slh a' lo' hi')) :=
  PE.by fun σ H Q ⟨α, ρ, g, S, E, q⟩ => by
    refine ⟨_, pe_slice (sl_any (Wx := Wx) hK) h1 (po_some h2) (po_some h3), α, ρ, g, S, E, ?_⟩
    simp only [ev] at q
    refine (post.bind (Rq := RepV p) q).imp fun x H1 _ ⟨α1, g1, w, K1, S1, r, q1⟩ => ⟨α1, ρ, g1, S1, E.mono K1, ?_⟩
    refine (post.bind (Rq := RepV p) q1).imp fun y H2 _ ⟨α2, g2, u, K2, S2, r2, q2⟩ => ?_
    cases u with
    | int i =>
      refine ⟨i, r2.int', α2, ρ, g2, S2, (E.mono K1).mono K2, ?_⟩
      refine (post.bind (Rq := RepV p) q2).imp fun z H3 _ ⟨α3, g3, u3, K3, S3, r3, q3⟩ => ?_
      cases u3 with
      | int j =>
        refine ⟨j, r3.int', α3, g3, w, σ, S3, (r.mono K2).mono K3, ?_⟩
        cases w <;> first | exact q3 | (simp only at q3; exact q3.elim) | skip
        all_goals (simp only at q3 ⊢; split at q3 <;> first | exact q3 | exact q3.elim | (rename_i hh; rw [hh]; exact q3) | skip)
        all_goals (rename_i hh; simp only [hh]; exact q3)
      | _ => cases w <;> exact q3.elim
    | _ => exact q2.elim
theorem e_rev {a : Expr} {a' : E} {k : Nat} {p1 p2 p3 pos : Pos} (hK : p.K = X.K) (h1 : PE X a (tV p Wx T call a')) : PE X (.Subscript a (.Slice none none (some (.UnaryOp .USub (.Constant (.int 1) k p1) p2)) p3) pos) (tV p Wx T call (.rev a')) :=
  PE.by fun σ H Q ⟨α, ρ, g, S, E, q⟩ => by
    refine ⟨_, pe_revL h1, α, ρ, g, S, E, ?_⟩
    simp only [ev] at q
    refine (post.bind (Rq := RepV p) q).imp fun x H1 _ ⟨α1, g1, w, K1, S1, r, q1⟩ => ?_
    split at q1
    · rename_i i
      obtain ⟨b, rfl, eb⟩ := r.ref'
      split at q1
      · rename_i ws f
        obtain ⟨vs, h1, rs⟩ := S1.lst f eb
        exact ⟨b, vs, rfl, .of h1, fun l hl => post.newL q1 S1 rs.rev hl⟩
      · exact q1.elim
    · exact q1.elim
/-! ### fields -/
theorem RepFs.get {α : List Addr} {H : Hp} {f : Nm} : ∀ {fs : List (Nm × W)} {fs' : List (Str × V)}, RepFs p α H fs fs' →
    (getF fs f = none ∧ fs'.lookup (nmS f) = none) ∨ ∃ w v, getF fs f = some w ∧ fs'.lookup (nmS f) = some v ∧ RepV p α H w v
  | [], _, h => by
    have : _ = [] := h
    subst this
    exact .inl ⟨rfl, rfl⟩
  | (a, w) :: r, _, ⟨v, q, e, rv, rr⟩ => by
    subst e
    by_cases ha : a = f
    · subst ha
      exact .inr ⟨w, v, by simp [getF], by simp [List.lookup_cons], rv⟩
    · have hb : (nmS f == nmS a) = false := by
        rw [beq_eq_false_iff_ne]
        intro e
        have := congrArg (fun z : Str => z.cps.toList) e
        exact ha (by simpa using this.symm)
      simp only [getF, if_neg ha, List.lookup_cons, hb]
      exact RepFs.get rr
theorem Sim.ins {α : List Addr} {H : Hp} {g : G} {i c : Nat} {fs : List (Nm × W)} {a : Addr} (s : Sim p α g H) (e : g[i]? = some (.ins c fs)) (ea : α[i]? = some a) : ∃ dx fs', H a = some (.ins (p.ca c) dx fs') ∧ c < p.nc ∧ RepFs p α H fs fs' := s.ob i _ a e ea
/-- the classes whose fields are plain: no attribute of the class has such a name -/
def FldOk (p : Px) (f : Nm) : Prop := ∀ c, c < p.nc → Cls p.K (p.ca c) ∧ NoAttr p.K (p.ca c) (nmS f)
theorem e_fld {a : Expr} {a' : E} {f : Nm} {pos : Pos} (hK : p.K = X.K) (hf : FldOk p f) (h1 : PE X a (tV p Wx T call a')) (hb : attributeBase a (nmS f) X.env (eval a X.env) = eval a X.env) : PE X (.Attribute a (nmS f) pos) (tV p Wx T call (.fld a' f)) :=
  PE.by fun σ H Q ⟨α, ρ, g, S, E, q⟩ => by
    refine ⟨_, pe_fld h1 hb, α, ρ, g, S, E, ?_⟩
    simp only [ev] at q
    refine (post.bind (Rq := RepV p) q).imp fun x H1 _ ⟨α1, g1, w, K1, S1, r, q1⟩ => ?_
    split at q1
    · rename_i i
      obtain ⟨b, rfl, eb⟩ := r.ref'
      split at q1
      · rename_i c fs e
        obtain ⟨w, e2, q2⟩ := post.of q1
        obtain ⟨dx, fs', h1, hc, rf⟩ := S1.ins e eb
        obtain ⟨k1, k2⟩ := hf c hc
        rcases RepFs.get (f := f) rf with ⟨a1, a2⟩ | ⟨w', v', a1, a2, a3⟩
        · rw [a1] at e2; cases e2
        · rw [a1] at e2; cases e2
          exact ⟨b, p.ca c, dx, fs', v', rfl, h1, hK ▸ k1, hK ▸ k2, a2, post.ok q2 S1 a3⟩
      · exact q1.elim
    · exact q1.elim
/-! ### built-in functions -/
theorem e_b1 {b : B1} {a : Expr} {a' : E} {e : Expr} (r : V → Hp → VK → Prop) (hd : PE X e (fun σ H Q => tV p Wx T call a' σ H fun x H1 => r x H1 Q))
    (hr : ∀ α H g w v k Q, Sim p α g H → RepV p α H w v → b.run w g = some k → (∀ u, RepV p α H k u → Q u H) → r v H Q) : PE X e (tV p Wx T call (.b1 b a')) :=
  PE.by fun σ H Q ⟨α, ρ, g, S, E, q⟩ => by
    refine ⟨_, hd, α, ρ, g, S, E, ?_⟩
    simp only [ev] at q
    refine (post.bind (Rq := RepV p) q).imp fun x H1 _ ⟨α1, g1, w, K1, S1, rx, q1⟩ => ?_
    obtain ⟨k, e1, q2⟩ := post.of q1
    exact hr α1 H1 g1 w x k Q S1 rx e1 fun u ru => post.ok q2 S1 ru
theorem run_abs {α : List Addr} {H : Hp} {g : G} {w k : W} {v : V} (R1 : RepV p α H w v) (e : B1.abs.run w g = some k) : ∃ i : Int, v = .int i ∧ k = .int (if i < 0 then -i else i) := by
  cases w <;> simp [B1.run] at e
  exact ⟨_, R1.int', e.symm⟩
theorem run_int1 {α : List Addr} {H : Hp} {g : G} {w k : W} {v : V} (R1 : RepV p α H w v) (e : B1.int.run w g = some k) : (∃ i : Int, v = .int i ∧ k = .int i) ∨ ∃ b : Bool, v = .bl b ∧ k = .int (if b then 1 else 0) := by
  cases w <;> simp [B1.run] at e
  · exact .inr ⟨_, R1.bl', e.symm⟩
  · exact .inl ⟨_, R1.int', e.symm⟩
theorem run_len (hK : p.K = X.K) {α : List Addr} {H : Hp} {g : G} {w k : W} {v : V} (S : Sim p α g H) (R1 : RepV p α H w v) (e : B1.len.run w g = some k) :
    (∃ n, LenV X.K v H n ∧ k = .int (n : Nat)) ∨ ∃ a kvs, v = .ref a ∧ Rd H a (.dK kvs) ∧ k = .int (kvs.length : Nat) := by
  cases w with
  | str s =>
    simp [B1.run] at e
    obtain ⟨c, e⟩ := e
    rw [R1.str']
    exact .inl ⟨s.length, ⟨by rw [strV_len]; exact sizeLine_lim c, (strV_len s).symm⟩, e.symm⟩
  | tup ws =>
    obtain ⟨a, vs, rfl, TT, r⟩ := R1.tup'
    simp [B1.run] at e
    exact .inl ⟨ws.length, .inr ⟨vs, hK ▸ TT, r.length⟩, e.symm⟩
  | fl ws =>
    obtain ⟨a, vs, rfl, L, r⟩ := R1.fl'
    simp [B1.run] at e
    exact .inl ⟨ws.length, .inl ⟨vs, hK ▸ L.sq, r.length⟩, e.symm⟩
  | ref i =>
    obtain ⟨a, rfl, ea⟩ := R1.ref'
    simp only [B1.run] at e
    split at e
    · rename_i ws f
      obtain ⟨vs, h1, r⟩ := S.lst f ea
      cases e
      exact .inl ⟨ws.length, .inl ⟨vs, .of h1, r.length⟩, rfl⟩
    · rename_i kvs f
      obtain ⟨kvs', h1, r⟩ := S.dict f ea
      cases e
      exact .inr ⟨a, kvs', rfl, .inl h1, by rw [r.length]⟩
    · rename_i kvs f
      obtain ⟨kvs', h1, r⟩ := S.dictR f (.inr rfl) ea
      cases e
      exact .inr ⟨a, kvs', rfl, h1, by rw [r.length]⟩
    · cases e
  | _ => simp [B1.run] at e
/-- len of anything served -/
theorem call_lenA (hK : p.K = X.K) : CallR X (.builtin "len") (fun xs H Q => ∃ x, xs = [x] ∧ ((∃ n, LenV X.K x H n ∧ Q (.int n) H) ∨ ∃ a kvs, x = .ref a ∧ Rd H a (.dK kvs) ∧ Q (.int kvs.length) H)) := by
  rintro pins s σ H xs us Q I r ⟨x, rfl, h⟩
  rcases h with ⟨n, l, q⟩ | ⟨a, kvs, rfl, hd, q⟩
  · exact call_len pins s σ H _ us Q I r ⟨x, n, rfl, l, q⟩
  · obtain ⟨u, rfl, ru⟩ := vals1 r
    cases ru
    exact d_len I hd fun t s' I' => ⟨.int _, H, I', ⟨t, rfl⟩, q⟩
/-- repr of a list, a tuple, where no repr is under way -/
theorem call_reprD (hg : X.A.guards = some []) (hu : X.A.units + 64 < cLine) : CallR X (.builtin "repr") (fun xs H Q => ∃ a d, xs = [V.ref a] ∧ Dp X.K H (.ref a) d ∧ d.showable = true ∧ d.hasDict = false ∧ d.depth ≤ 60 ∧ d.shown.length ≤ sizeLine ∧ Q (.str d.shown) H) := by
  rintro pins s σ H xs us Q I r ⟨a, d, rfl, D, h1, h2, h3, h4, q⟩
  obtain ⟨u, rfl, rx⟩ := vals1 r
  obtain ⟨as, R⟩ := Dp.reads I d _ u D rx
  cases rx
  refine repr_of_reads' R h1 (fun z => ?_) hg (by omega) (fun _ _ e => e) (fun h' u tk k => ⟨.str d.shown, H, I.kept k, ⟨u, rfl⟩, q⟩) h4
  rw [h2] at z; cases z
theorem noDict_all {g : G} {n : Nat} (ih : ∀ w, (pd g n w).hasDict = false) : ∀ ws : List W, PySem.PyData.hasDictAll (ws.map (pd g n)) = false
  | [] => rfl
  | w :: ws => by simp only [List.map_cons, PySem.PyData.hasDictAll, ih w, noDict_all ih ws]; rfl
theorem noDict (g : G) : ∀ (n : Nat) (w : W), (pd g n w).hasDict = false
  | 0, _ => rfl
  | n + 1, w => by cases w <;> simp only [pd, PySem.PyData.hasDict] <;> exact noDict_all (noDict g n) _
theorem run_repr (hK : p.K = X.K) {α : List Addr} {H : Hp} {g : G} {w k : W} {v : V} (S : Sim p α g H) (R1 : RepV p α H w v) (e : B1.repr.run w g = some k) :
    ∃ a d, v = .ref a ∧ Dp X.K H (.ref a) d ∧ d.showable = true ∧ d.hasDict = false ∧ d.depth ≤ 60 ∧ d.shown.length ≤ sizeLine ∧ k = .str d.shown.cps.toList := by
  have key : ∀ {a : Addr}, v = .ref a → (if dataOk g 60 w && ((pd g 60 w).showable && decide ((pd g 60 w).shown.length ≤ 1000000)) then some (W.str (pd g 60 w).shown.cps.toList) else none) = some k →
      ∃ a d, v = .ref a ∧ Dp X.K H (.ref a) d ∧ d.showable = true ∧ d.hasDict = false ∧ d.depth ≤ 60 ∧ d.shown.length ≤ sizeLine ∧ k = .str d.shown.cps.toList := by
    rintro a rfl e
    split at e
    · rename_i c
      simp only [Bool.and_eq_true, decide_eq_true_eq] at c
      cases e
      exact ⟨a, _, rfl, hK ▸ dp_of S 60 w _ c.1 R1, c.2.1, noDict g 60 w, (lay_of 60 w c.1).2, sizeLine_lim c.2.2, rfl⟩
    · cases e
  cases w with
  | tup ws =>
    obtain ⟨a, vs, rfl, _⟩ := R1.tup'
    exact key rfl e
  | ref i =>
    obtain ⟨a, rfl, _⟩ := R1.ref'
    exact key rfl e
  | _ => simp [B1.run, reprW] at e
/-- two ints -/
theorem e_max2 {e : Expr} {es : List Expr} {a' b' : E} (hd : PE X e (tCB (fun xs H Q => ∃ i j : Int, xs = [.int i, .int j] ∧ Q (.int (if j > i then j else i)) H) (tL p Wx T call (.cons a' (.cons b' .nil))))) : PE X e (tV p Wx T call (.max2 a' b')) :=
  PE.by fun σ H Q ⟨α, ρ, g, S, E, q⟩ => by
    refine ⟨_, hd, α, ρ, g, S, E, ?_⟩
    simp only [ev] at q
    simp only [evl]
    cases e1 : ev T call a' ρ g with
    | err => rw [e1] at q; exact q.elim
    | exc c g1 => rw [e1] at q; exact q
    | ok w g1 =>
      rw [e1] at q
      simp only [R.bind] at q ⊢
      cases e2 : ev T call b' ρ g1 with
      | err => rw [e2] at q; exact q.elim
      | exc c g1 => rw [e2] at q; exact q
      | ok u g2 =>
        rw [e2] at q
        simp only at q ⊢
        intro α1 H1 vs K1 S1 r
        obtain ⟨v1, q1, rfl, r1, r⟩ := r.cons'
        obtain ⟨v2, q2, rfl, r2, r⟩ := r.cons'
        have := r.nil'
        subst this
        split at q
        · exact ⟨_, _, by rw [r1.int', r2.int'], post.ok (post.mono q K1) S1 .int⟩
        · exact q.elim
theorem e_min2 {e : Expr} {a' b' : E} (hd : PE X e (tCB (fun xs H Q => ∃ i j : Int, xs = [.int i, .int j] ∧ Q (.int (if j < i then j else i)) H) (tL p Wx T call (.cons a' (.cons b' .nil))))) : PE X e (tV p Wx T call (.min2 a' b')) :=
  PE.by fun σ H Q ⟨α, ρ, g, S, E, q⟩ => by
    refine ⟨_, hd, α, ρ, g, S, E, ?_⟩
    simp only [ev] at q
    simp only [evl]
    cases e1 : ev T call a' ρ g with
    | err => rw [e1] at q; exact q.elim
    | exc c g1 => rw [e1] at q; exact q
    | ok w g1 =>
      rw [e1] at q
      simp only [R.bind] at q ⊢
      cases e2 : ev T call b' ρ g1 with
      | err => rw [e2] at q; exact q.elim
      | exc c g1 => rw [e2] at q; exact q
      | ok u g2 =>
        rw [e2] at q
        simp only at q ⊢
        intro α1 H1 vs K1 S1 r
        obtain ⟨v1, q1, rfl, r1, r⟩ := r.cons'
        obtain ⟨v2, q2, rfl, r2, r⟩ := r.cons'
        have := r.nil'
        subst this
        split at q
        · exact ⟨_, _, by rw [r1.int', r2.int'], post.ok (post.mono q K1) S1 .int⟩
        · exact q.elim
/-! ### isinstance of built-in types -/
def Ty.name : Ty → String
  | .int => "int" | .bool => "bool" | .str => "str" | .list => "list" | .tuple => "tuple" | .dict => "dict" | .cls _ => ""
/-- what kitOne says of the built-in types, by the written part -/
structure KitOk (K : PySem.W.Frag) : Prop where
  b : ∀ t c : Ty, t.name ≠ "" → c.name ≠ "" → PySem.W.kitOne K (.type t.name) (.type c.name) = some (t.name == c.name || (t.name == "bool" && c.name == "int"))
  n : ∀ c : Ty, c.name ≠ "" → PySem.W.kitOne K (.type "NoneType") (.type c.name) = some false
theorem isTy_rep (hK : p.K = X.K) (k : KitOk X.K) {α : List Addr} {H : Hp} {g : G} {w : W} {v : V} {t : Ty} {b : Bool} (S : Sim p α g H) (R1 : RepV p α H w v) (e : isTy w t g = some b) :
    ∃ tv : Value, TyX X.K H v tv ∧ PySem.W.kitOne X.K tv (.type t.name) = some b := by
  have tupx : ∀ {a : Addr} {vs : List V}, SqT X.K H a vs → TyX X.K H (.ref a) (.type "tuple") := by
    intro a vs h
    rcases h with (h | ⟨o, h⟩) | ⟨o, its, n, h, c, _⟩
    · exact .base (.tup h)
    · exact .fTuple h
    · exact .kTuple h c
  have ans : ∀ {tn : Ty}, tn.name ≠ "" → t.name ≠ "" → TyX X.K H v (.type tn.name) → (tn.name == t.name || (tn.name == "bool" && t.name == "int")) = b → ∃ tv : Value, TyX X.K H v tv ∧ PySem.W.kitOne X.K tv (.type t.name) = some b :=
    fun h1 h2 x y => ⟨_, x, by rw [k.b _ _ h1 h2, y]⟩
  cases w with
  | non =>
    have hv := R1.non'
    subst hv
    cases t <;> simp [isTy] at e <;> subst e <;> exact ⟨_, .base .non, k.n _ (by decide)⟩
  | bl c =>
    have hv := R1.bl'
    subst hv
    cases t <;> simp [isTy] at e <;> subst e <;> exact ans (tn := .bool) (by decide) (by decide) (.base (.bl _)) (by decide)
  | int c =>
    have hv := R1.int'
    subst hv
    cases t <;> simp [isTy] at e <;> subst e <;> exact ans (tn := .int) (by decide) (by decide) (.base (.int _)) (by decide)
  | str c =>
    have hv := R1.str'
    subst hv
    cases t <;> simp [isTy] at e <;> subst e <;> exact ans (tn := .str) (by decide) (by decide) (.base (.str _)) (by decide)
  | tup ws =>
    obtain ⟨a, vs, rfl, TT, r⟩ := R1.tup'
    cases t <;> simp [isTy] at e <;> subst e <;> exact ans (tn := .tuple) (by decide) (by decide) (tupx (hK ▸ TT)) (by decide)
  | ref i =>
    obtain ⟨a, rfl, ea⟩ := R1.ref'
    have lx : ∀ {ws : List W}, g[i]? = some (.lst ws) → TyX X.K H (.ref a) (.type "list") := fun f => by
      obtain ⟨vs, h1, r⟩ := S.lst f ea
      exact .base (.lst h1)
    have dx : ∀ {ws : List (W × W)}, g[i]? = some (.dct ws) → TyX X.K H (.ref a) (.type "dict") := fun f => by
      obtain ⟨vs, h1, r⟩ := S.dict f ea
      exact .base (.dK h1)
    cases t <;> simp only [isTy] at e <;> first | (cases e; done) | skip
    all_goals (split at e <;> first | (cases e; done) | skip)
    all_goals (cases e)
    all_goals first
      | (rename_i f; exact ans (tn := .list) (by decide) (by decide) (lx f) (by decide))
      | (rename_i f; exact ans (tn := .dict) (by decide) (by decide) (dx f) (by decide))
  | exn _ => cases t <;> simp [isTy] at e
  | fl _ => cases t <;> simp [isTy] at e
  | fd _ _ => cases t <;> simp [isTy] at e
end
end Dl

/-! DlG: calls. -/
namespace Dl
open PySem L2
/-! ### syntax that is plain -/
def notStar : Expr → Bool
  | .Starred _ _ => false
  | _ => true
theorem star_cons {e : Expr} {es : List Expr} {env : PySem.Env} (h : notStar e = true) : starEach (e :: es) env = (false, eval e env) :: starEach es env := by
  cases e <;> first | rfl | (simp [notStar] at h; done)
theorem star_all {env : PySem.Env} : ∀ {es : List Expr}, es.all notStar = true → (starEach es env).all (fun x => !x.1) = true
  | [], _ => rfl
  | e :: es, h => by
    simp only [List.all_cons, Bool.and_eq_true] at h
    rw [star_cons h.1]
    simp only [List.all_cons, Bool.and_eq_true]
    exact ⟨rfl, star_all h.2⟩
theorem back_all {pos : Pos} {l : List (Bool × Sem Value)} (h : l.all (fun x => !x.1) = true) : (backTo pos l).all (fun x => !x.1) = true := by
  unfold backTo
  rw [List.all_map]
  exact h
theorem back_any {pos : Pos} {l : List (Bool × Sem Value)} (h : l.all (fun x => !x.1) = true) : (backTo pos l).any (·.1) = false := by
  have := back_all (pos := pos) h
  rw [List.any_eq_false]
  intro x hx
  have := List.all_eq_true.mp this x hx
  simpa using this
def notCall0 : Expr → Bool
  | .Call (.Name _ _) [] [] _ => false
  | _ => true
theorem attr_base {o : Expr} {m : Str} {env : PySem.Env} {w : Sem Value} (h : notCall0 o = true) : attributeBase o m env w = w := by
  unfold attributeBase
  split
  · simp [notCall0] at h
  · rfl
theorem form_few {n : Nat} {env : PySem.Env} {es : List Expr} {pos : Pos} (h : es.all notStar = true) (hn : n < 20) : methodCallForm n (backTo pos (starEach es env)) (backToKw pos (keywordEach [] env)) = true := by
  unfold methodCallForm
  rw [back_all (star_all h)]
  show (true && true && decide (n + (if ([] : List (Option Str × Sem Value)).isEmpty then 0 else 1) < 30)) = true
  simp
  omega
theorem meth_eq {o : Expr} {m : Str} {apos pos : Pos} {es : List Expr} {env : PySem.Env} (ho : notCall0 o = true) (hs : es.all notStar = true) (hn : es.length < 20) (hl : (apos.endLine == pos.line) = true) :
    eval (.Call (.Attribute o m apos) es [] pos) env = (do
      let ov ← eval o env
      standAt apos.atName
      let (f, first) ← holding [ov] (getMethod ov m (do return (← importBound o env).getD true))
      callWith pos f first (backTo pos (starEach es env)) (backToKw pos (keywordEach [] env))) := by
  have hf : methodCallForm (es.length + ([] : List Keyword).length) (backTo pos (starEach es env)) (backToKw pos (keywordEach [] env)) = true := form_few hs (by simpa using hn)
  have e : eval (.Call (.Attribute o m apos) es [] pos) env = (do
      let ov ← attributeBase o m env (eval o env)
      standAt apos.atName
      methodCall o m apos pos env ov (es.length + ([] : List Keyword).length) (backTo pos (starEach es env)) (backToKw pos (keywordEach [] env))) := by
    rw [eval]
  rw [e, attr_base ho]
  have hp : methodCallPos true o env apos pos = pure pos := by
    unfold methodCallPos
    rw [if_pos (by rw [hl]; rfl)]
  have hm : ∀ ov, methodCall o m apos pos env ov (es.length + ([] : List Keyword).length) (backTo pos (starEach es env)) (backToKw pos (keywordEach [] env)) = (do
      let (f, first) ← holding [ov] (getMethod ov m (do return (← importBound o env).getD true))
      callWith pos f first (backTo pos (starEach es env)) (backToKw pos (keywordEach [] env))) := by
    intro ov
    unfold methodCall
    rw [hf, hp]
    simp only [calleeOf, if_true, pure_bind]
  simp only [hm]
/-! ### promises -/
/-- what the i-th function of the table promises, by calls -/
def spI (p : Px) (call : CallF) (i : Nat) : Sp := fun vs H Q E => ∃ α g ws, Sim p α g H ∧ RepVs p α H ws vs ∧ post p (fun cls d _ H' => E cls d H') (RepV p) (call i ws g) α H [] Q
theorem post.wx {β γ : Type} {p : Px} {Wx Wy : WX} {Rp : List Addr → Hp → β → γ → Prop} {r : R β} {α : List Addr} {H : Hp} {σ τ : St} {Q : γ → Hp → Prop} (h : post p Wx Rp r α H σ Q) (w : ∀ c H', Wx c none σ H' → Wy c none τ H') : post p Wy Rp r α H τ Q := by
  cases r with
  | ok _ _ => exact h
  | exc c g => exact fun α' H' b s => w _ _ (h α' H' b s)
  | err => exact h
/-- a function of the table as the context knows it -/
structure FnAt (p : Px) (call : CallF) (lv : Nat) (X : Cx) (f : Addr) (i : Nat) : Prop where
  ex : ∃ (fd : FuncData) (ps : List Str), FnOk X.prog X.w X.K X.mg X.base (L2.CX X.prog X.w) lv f fd ps (spI p call i) ∧ Binds X.K fd ps []
  kp : PySem.W.keepIn X.K (.ref f) = true
section
variable {p : Px} {Wx : WX} {X : Cx} {T : Tbl} {call : CallF} {lv : Nat}
/-- the values are there: the callee runs -/
theorem run_at {pins : List (Addr × Obj)} {σ : St} {H : Hp} {s : Shared} {Q : VK} {us : List Value} {vs : List V} {f : Addr} {i : Nat} (F : FnAt p call lv X f i) (hr : Room lv X.A) (tk : Takes X Wx) (I : Inv X pins σ H s) (r : Vals vs us)
    (h : ∃ α g ws, Sim p α g H ∧ RepVs p α H ws vs ∧ post p Wx (RepV p) (call i ws g) α H σ Q) : wpAny (model X.prog X.w) X.A (PySem.call (.ref f) us) (EP X pins σ Q) X.xe s := by
  obtain ⟨fd, ps, F1, F2⟩ := F.ex
  obtain ⟨α, g, ws, S, rs, q⟩ := h
  exact run_fnS (E := WE Wx) F1 hr F2 (passAt tk σ) I r ⟨α, g, ws, S, rs, q.wx fun _ _ z => z⟩
/-- arguments, then a call -/
theorem e_call {x : Str} {f : Addr} {i : Nat} {q1 pos : Pos} {es : List Expr} {es' : EL} (F : FnAt p call lv X f i) (hr : Room lv X.A) (tk : Takes X Wx) (hg : Gl X x) (hm : X.mg x = some (.ref f)) (ha : PA X es (tL p Wx T call es')) (hn : es = [] → es' = .nil) (hs : es.all notStar = true) (hd : (x == ("__debug__" : Str)) = false) :
    PE X (.Call (.Name x q1) es [] pos) (tV p Wx T call (.call i es')) := by
  refine ⟨fun pins s σ H Q I ⟨α, ρ, g, S, E, q⟩ => ?_⟩
  simp only [ev] at q
  refine wpAny_Call_Name_kw (ld_glob I hg hm ?_ hd)
  cases es with
  | nil =>
    have e0 := hn rfl
    subst e0
    simp only [evl, R.bind] at q
    exact PySem.W.callWith_K0 (first := []) I.kIn F.kp (run_at (us := []) F hr tk I .nil ⟨α, g, [], S, .nil, q⟩)
  | cons e es =>
    simp only [List.all_cons, Bool.and_eq_true] at hs
    refine PySem.W.callWith_K (first := []) (h₀ := X.base) I.ok.mod.kin F.kp (thn (ha.run pos pins s σ H (fun vs H1 => ∃ α g ws, Sim p α g H1 ∧ RepVs p α H1 ws vs ∧ post p Wx (RepV p) (call i ws g) α H1 σ Q) I ⟨α, ρ, g, S, E, ?_⟩) fun us s1 ⟨vs, H1, I1, r, h⟩ => ⟨I1.kIn, ?_⟩) (star_cons hs.1) (back_any (star_all hs.2))
    · exact (post.bind (Rq := RepVs p) q).imp fun xs H1 _ ⟨α1, g1, w, K1, S1, r, q1⟩ => ⟨α1, g1, w, S1, r, q1⟩
    · exact run_at F hr tk I1 r h
/-- the classes of the table as the context knows them -/
structure ClOk (p : Px) (T : Tbl) (call : CallF) (lv : Nat) (X : Cx) : Prop where
  /-- a method: where it stands -/
  m : ∀ (c : Nat) (cl : Cl) (m : Nm) (f : Nat), T.cls[c]? = some cl → findM cl.ms m = some f → Cls X.K (p.ca c) ∧ ∃ a, Meth X.K (p.ca c) (nmS m) a ∧ FnAt p call lv X a f
theorem e_meth {o : Expr} {o' : E} {m : Nm} {apos pos : Pos} {es : List Expr} {es' : EL} (C : ClOk p T call lv X) (hr : Room lv X.A) (tk : Takes X Wx) (ho : PE X o (tV p Wx T call o')) (ha : PA X es (tL p Wx T call es')) (hn : es = [] → es' = .nil) (hs : es.all notStar = true)
    (hc : notCall0 o = true) (hl : es.length < 20) (hline : (apos.endLine == pos.line) = true) : PE X (.Call (.Attribute o (nmS m) apos) es [] pos) (tV p Wx T call (.meth o' m es')) := by
  refine ⟨fun pins s σ H Q I ⟨α, ρ, g, S, E, q⟩ => ?_⟩
  simp only [ev] at q
  refine PySem.W.methodCall_KW (thn (ho.run pins s σ H _ I ⟨α, ρ, g, S, E, post.bind (Rq := RepV p) q⟩) fun u s1 ⟨x, H1, I1, rx, α1, g1, w, K1, S1, r, q1⟩ => ?_) (meth_eq hc hs hl hline)
  have E1 := E.mono K1
  cases w with
  | ref i =>
    obtain ⟨a, rfl, ea⟩ := r.ref'
    obtain rfl : u = Value.ref a := rx
    simp only at q1
    split at q1
    · rename_i c fs e
      split at q1
      · rename_i cl ecl
        split at q1
        · rename_i f e1 e2
          obtain ⟨dx, fs', h1, hc, rf⟩ := S1.ins e ea
          obtain ⟨k1, af, k2, F⟩ := C.m c cl m f ecl e1
          have hno : fs'.lookup (nmS m) = none := by
            rcases RepFs.get (f := m) rf with ⟨a1, a2⟩ | ⟨w', v', a1, a2, a3⟩
            · exact a2
            · rw [a1] at e2; cases e2
          refine getmeth_ok I1 h1 k1 k2 hno ?_
          cases es with
          | nil =>
            have e0 := hn rfl
            subst e0
            simp only [evl, R.bind] at q1
            exact PySem.W.callWith_K0 (first := [.ref a]) I1.kIn F.kp (run_at (us := [.ref a]) (vs := [.ref a]) F hr tk I1 (.cons rfl .nil) ⟨α1, g1, [.ref i], S1, .cons r .nil, q1⟩)
          | cons e es =>
            simp only [List.all_cons, Bool.and_eq_true] at hs
            refine PySem.W.callWith_K (first := [.ref a]) (h₀ := X.base) I.ok.mod.kin F.kp (thn (ha.run pos pins s1 σ H1 (fun vs H2 => ∃ α g ws, Sim p α g H2 ∧ RepVs p α H2 ws (.ref a :: vs) ∧ post p Wx (RepV p) (call f ws g) α H2 σ Q) I1 ⟨α1, ρ, g1, S1, E1, ?_⟩) fun us s2 ⟨vs, H2, I2, rv, h⟩ => ⟨I2.kIn, ?_⟩) (star_cons hs.1) (back_any (star_all hs.2))
            · exact (post.bind (Rq := RepVs p) q1).imp fun xs H2 _ ⟨α2, g2, w, K2, S2, r2, q2⟩ => ⟨α2, g2, .ref i :: w, S2, .cons (r.mono K2) r2, q2⟩
            · exact run_at (us := .ref a :: us) (vs := .ref a :: vs) F hr tk I2 (.cons rfl rv) h
        · exact q1.elim
      · exact q1.elim
    · exact q1.elim
  | _ => exact q1.elim
/-- a new instance -/
structure NewOk (p : Px) (T : Tbl) (call : CallF) (lv : Nat) (X : Cx) (c : Nat) : Prop where
  ex : ∃ (cl : Cl) (fi : Addr) (fd : FuncData) (ps : List Str), T.cls[c]? = some cl ∧ Mk X.K (p.ca c) fi ∧ FnOk X.prog X.w X.K X.mg X.base (L2.CX X.prog X.w) lv fi fd ps (spI p call cl.init) ∧ Binds X.K fd ps []
  lt : c < p.nc
theorem run_new {pins : List (Addr × Obj)} {σ : St} {H : Hp} {s : Shared} {Q : VK} {us : List Value} {vs : List V} {c : Nat} (N : NewOk p T call lv X c) (hr : Room (lv + 1) X.A) (tk : Takes X Wx) (I : Inv X pins σ H s) (r : Vals vs us)
    (h : ∃ α g ws, Sim p α g H ∧ RepVs p α H ws vs ∧ post p Wx (RepV p) (match T.cls[c]? with
      | some cl => (call cl.init (.ref g.length :: ws) (g ++ [.ins c []])).bind fun w g2 => match w with
        | .non => .ok (.ref g.length) g2
        | _ => .err
      | none => .err) α H σ Q) : wpAny (model X.prog X.w) X.A (PySem.call (.ref (p.ca c)) us) (EP X pins σ Q) X.xe s := by
  obtain ⟨cl, fi, fd, ps, ec, M, F, B⟩ := N.ex
  obtain ⟨α, g, ws, S, rs, q⟩ := h
  rw [ec] at q
  simp only at q
  have hx := I.hok.fresh (Nat.le_succ s.heap.objs.size)
  have hdx := I.hok.fresh (Nat.le_refl s.heap.objs.size)
  have I2 := Inv.made (C := p.ca c) I
  have S1 := S.junk (u := .own (s.heap.objs.size + 1)) hdx
  have hx' : upd H s.heap.objs.size (.own (s.heap.objs.size + 1)) (s.heap.objs.size + 1) = none := by rw [upd_ne (Nat.ne_of_gt (Nat.lt_succ_self _))]; exact hx
  have S2 : Sim p (α ++ [s.heap.objs.size + 1]) (g ++ [.ins c []]) (upd (upd H s.heap.objs.size (.own (s.heap.objs.size + 1))) (s.heap.objs.size + 1) (.ins (p.ca c) s.heap.objs.size [])) :=
    S1.new hx' ⟨s.heap.objs.size, [], upd_same, N.lt, rfl⟩
  have K1 : Kp α H (α ++ [s.heap.objs.size + 1]) (upd (upd H s.heap.objs.size (.own (s.heap.objs.size + 1))) (s.heap.objs.size + 1) (.ins (p.ca c) s.heap.objs.size [])) := (Kp.junk hdx).trans (.new hx')
  have el : (α ++ [s.heap.objs.size + 1])[g.length]? = some (s.heap.objs.size + 1) := by rw [← S.len]; simp
  have hsp : spI p call cl.init (.ref (s.heap.objs.size + 1) :: vs) (upd (upd H s.heap.objs.size (.own (s.heap.objs.size + 1))) (s.heap.objs.size + 1) (.ins (p.ca c) s.heap.objs.size [])) (fun v H2 => v = .non ∧ Q (.ref (s.heap.objs.size + 1)) H2) (WE Wx σ) := by
    refine ⟨_, _, .ref g.length :: ws, S2, .cons (.ref el) (rs.mono K1), ?_⟩
    have q' := q.mono K1
    refine ((post.bind (Rq := RepV p) q').imp fun v H2 k2 ⟨α2, g2, w, K2, S3, r2, q2⟩ => ?_).wx fun _ _ z => z
    cases w with
    | non => exact ⟨r2.non', post.ok q2 S3 (.ref (K2.pre.get el))⟩
    | _ => exact q2.elim
  have r2 : Vals (V.ref (s.heap.objs.size + 1) :: vs) (Value.ref (s.heap.objs.size + 1) :: us) := .cons rfl r
  have hl : (Value.ref (s.heap.objs.size + 1) :: us).length = ps.length := by
    have e := r2.length
    rw [F.len _ _ _ _ hsp] at e
    exact e.symm
  have b := B { s with heap := (s.heap.push PySem.W.emptyDict).push (PySem.W.instObj (p.ca c) s.heap.objs.size) } (Value.ref (s.heap.objs.size + 1) :: us) I2.kIn (by rw [List.append_nil]; exact hl)
  rw [List.append_nil] at b
  refine wpAny_call (make_map (f := fi) I.kIn M.makes M.init (beq_iff_eq.mp M.fn) (codeAny_mono (F.run _ X.stack _ _ _ _ _ _ (WE Wx σ) (hr.make (p.ca c) us []) (I2.env0.make (p.ca c) us []) b r2 hsp) fun res s' hres => ?_))
  cases res with
  | error e => exact passAt tk σ pins _ _ e s' I2 hres
  | ok fl =>
    cases fl with
    | ret u =>
      obtain ⟨v, H', I3, rv, e3, q3⟩ := I2.after hres
      subst e3
      exact ⟨rv, V.ref (s.heap.objs.size + 1), H', I3, rfl, q3⟩
    | _ => exact hres.elim
theorem e_new {x : Str} {c : Nat} {q1 pos : Pos} {es : List Expr} {es' : EL} (N : NewOk p T call lv X c) (kp : PySem.W.keepIn X.K (.ref (p.ca c)) = true) (hr : Room (lv + 1) X.A) (tk : Takes X Wx) (hg : Gl X x) (hm : X.mg x = some (.ref (p.ca c))) (ha : PA X es (tL p Wx T call es')) (hn : es = [] → es' = .nil) (hs : es.all notStar = true) (hd : (x == ("__debug__" : Str)) = false) :
    PE X (.Call (.Name x q1) es [] pos) (tV p Wx T call (.new c es')) := by
  refine ⟨fun pins s σ H Q I ⟨α, ρ, g, S, E, q⟩ => ?_⟩
  simp only [ev] at q
  refine wpAny_Call_Name_kw (ld_glob I hg hm ?_ hd)
  cases es with
  | nil =>
    have e0 := hn rfl
    subst e0
    simp only [evl, R.bind] at q
    exact PySem.W.callWith_K0 (first := []) I.kIn kp (run_new (us := []) N hr tk I .nil ⟨α, g, [], S, .nil, q⟩)
  | cons e es =>
    simp only [List.all_cons, Bool.and_eq_true] at hs
    refine PySem.W.callWith_K (first := []) (h₀ := X.base) I.ok.mod.kin kp (thn (ha.run pos pins s σ H _ I ⟨α, ρ, g, S, E, post.bind (Rq := RepVs p) q⟩) fun us s1 ⟨vs, H1, I1, r, α1, g1, w, K1, S1, r1, q1⟩ => ⟨I1.kIn, ?_⟩) (star_cons hs.1) (back_any (star_all hs.2))
    exact run_new N hr tk I1 r ⟨α1, g1, w, S1, r1, q1⟩
end
end Dl

/-! DlH: what is walked; comprehensions; built-ins of lists. -/
namespace Dl
open PySem L2
section
variable {p : Px} {Wx : WX} {X : Cx} {T : Tbl} {call : CallF}
/-- J walks what cur says -/
def RepC (p : Px) (α : List Addr) (H : Hp) (cur : Cur) (J : It) : Prop := ∀ α' g' H' j, Kp α H α' H' → Sim p α' g' H' →
  (cur.at_ j g' = some none → J.stop j H') ∧ ∀ w, cur.at_ j g' = some (some w) → J.go j H' ∧ ∀ x H2, J.yld j H' x H2 → Kp α' H' α' H2 ∧ Sim p α' g' H2 ∧ RepV p α' H2 w x
theorem RepC.mono {α α' : List Addr} {H H' : Hp} {c : Cur} {J : It} (h : RepC p α H c J) (k : Kp α H α' H') : RepC p α' H' c J := fun α2 g2 H2 j k2 s => h α2 g2 H2 j (k.trans k2) s
abbrev tC (p : Px) (Wx : WX) (T : Tbl) (call : CallF) (s : Src) : TI := tG p Wx (RepC p) (src T call s)
theorem PI.by {tg iter : Expr} {t : TI} (h : ∀ σ H R, t σ H R → ∃ t', PI X tg iter t' ∧ t' σ H R) : PI X tg iter t :=
  ⟨fun pins s σ H Q I q => let ⟨_, d, q'⟩ := h σ H Q q; d.run pins s σ H Q I q'⟩
theorem repC_tup {α : List Addr} {H : Hp} {ws : List W} {vs : List V} {a : Addr} (TT : SqT p.K H a vs) (r : RepVs p α H ws vs) : RepC p α H (.vals ws) (Itt p.K a) := by
  intro α' g' H' j k s
  have TT' := k.kp.sq TT
  have r' := r.mono k
  refine ⟨fun e => ?_, fun w e => ?_⟩
  · simp only [Cur.at_, Option.some.injEq] at e
    exact ⟨vs, TT', List.getElem?_eq_none_iff.mp (r'.getN e)⟩
  · simp only [Cur.at_, Option.some.injEq] at e
    obtain ⟨v, e1, e2⟩ := r'.get e
    refine ⟨⟨vs, v, TT', e1⟩, fun x H2 y => ?_⟩
    obtain ⟨rfl, y⟩ := y
    have := y vs TT'
    rw [e1] at this
    cases this
    exact ⟨.refl _ _, s, e2⟩
theorem repC_fl {α : List Addr} {H : Hp} {ws : List W} {vs : List V} {a : Addr} (TT : SqF p.K H a vs) (r : RepVs p α H ws vs) : RepC p α H (.vals ws) (Itl p.K a) := by
  intro α' g' H' j k s
  have TT' := (TT.mono k.kp).sq
  have r' := r.mono k
  refine ⟨fun e => ?_, fun w e => ?_⟩
  · simp only [Cur.at_, Option.some.injEq] at e
    exact ⟨vs, TT', List.getElem?_eq_none_iff.mp (r'.getN e)⟩
  · simp only [Cur.at_, Option.some.injEq] at e
    obtain ⟨v, e1, e2⟩ := r'.get e
    refine ⟨⟨vs, v, TT', e1⟩, fun x H2 y => ?_⟩
    obtain ⟨rfl, y⟩ := y
    have := y vs TT'
    rw [e1] at this
    cases this
    exact ⟨.refl _ _, s, e2⟩
theorem repC_live {α : List Addr} {H : Hp} {i : Nat} {a : Addr} (ea : α[i]? = some a) : RepC p α H (.live i) (Itl p.K a) := by
  intro α' g' H' j k s
  have ea' := k.pre.get ea
  refine ⟨fun e => ?_, fun w e => ?_⟩
  · simp only [Cur.at_, Option.map_eq_some_iff] at e
    obtain ⟨ws, e1, e2⟩ := e
    obtain ⟨vs, L, r⟩ := s.lstOf e1 ea'
    exact ⟨vs, L, List.getElem?_eq_none_iff.mp (r.getN e2)⟩
  · simp only [Cur.at_, Option.map_eq_some_iff] at e
    obtain ⟨ws, e1, e2⟩ := e
    obtain ⟨vs, L, r⟩ := s.lstOf e1 ea'
    obtain ⟨v, e3, e4⟩ := r.get e2
    refine ⟨⟨vs, v, L, e3⟩, fun x H2 y => ?_⟩
    obtain ⟨rfl, y⟩ := y
    have := y vs L
    rw [e3] at this
    cases this
    exact ⟨.refl _ _, s, e4⟩
theorem repC_str {α : List Addr} {H : Hp} {z : List Nat} : RepC p α H (.vals (z.map fun c => W.str [c])) (Its (strV z)) := by
  intro α' g' H' j k s
  refine ⟨fun e => ?_, fun w e => ?_⟩
  · simp only [Cur.at_, Option.some.injEq] at e
    have := List.getElem?_eq_none_iff.mp e
    show (strV z).cps.size ≤ j
    simpa using this
  · simp only [Cur.at_, Option.some.injEq, List.getElem?_map, Option.map_eq_some_iff] at e
    obtain ⟨c, e1, rfl⟩ := e
    refine ⟨?_, fun x H2 y => ?_⟩
    · show j < (strV z).cps.size
      have := (List.getElem?_eq_some_iff.mp e1).1
      simpa using this
    · obtain ⟨rfl, c', ec, rfl⟩ := y
      have : c' = c := by
        have h : z[j]? = some c' := by simpa using ec
        rw [e1] at h; cases h; rfl
      subst this
      exact ⟨.refl _ _, s, .str⟩
theorem repC_rng {α : List Addr} {H : Hp} {lo : Int} {n : Nat} : RepC p α H (.vals ((List.range n).map fun (k : Nat) => W.int (lo + k))) (Itr lo n) := by
  intro α' g' H' j k s
  refine ⟨fun e => ?_, fun w e => ?_⟩
  · simp only [Cur.at_, Option.some.injEq] at e
    have := List.getElem?_eq_none_iff.mp e
    show n ≤ j
    simpa using this
  · simp only [Cur.at_, Option.some.injEq, List.getElem?_map, Option.map_eq_some_iff] at e
    obtain ⟨c, e1, rfl⟩ := e
    obtain ⟨h1, h2⟩ := List.getElem?_eq_some_iff.mp e1
    simp at h1 h2
    subst h2
    refine ⟨h1, fun x H2 y => ?_⟩
    obtain ⟨rfl, rfl⟩ := y
    exact ⟨.refl _ _, s, .int⟩
theorem repC_enum {α : List Addr} {H : Hp} {i : Nat} {a : Addr} (ea : α[i]? = some a) : RepC p α H (.lenum i) (Ite p.K a) := by
  intro α' g' H' j k s
  have ea' := k.pre.get ea
  refine ⟨fun e => ?_, fun w e => ?_⟩
  · simp only [Cur.at_, Option.map_eq_some_iff] at e
    obtain ⟨ws, e1, e2⟩ := e
    obtain ⟨vs, L, r⟩ := s.lstOf e1 ea'
    refine ⟨vs, L, List.getElem?_eq_none_iff.mp (r.getN ?_)⟩
    cases h : ws[j]? with
    | none => rfl
    | some w => rw [h] at e2; cases e2
  · simp only [Cur.at_, Option.map_eq_some_iff] at e
    obtain ⟨ws, e1, e2⟩ := e
    obtain ⟨w', e2, rfl⟩ := e2
    obtain ⟨vs, L, r⟩ := s.lstOf e1 ea'
    obtain ⟨v, e3, e4⟩ := r.get e2
    refine ⟨⟨vs, v, L, e3⟩, fun x H2 y => ?_⟩
    obtain ⟨Tp, y', rfl, hT, rfl, hx⟩ := y
    have := hx vs L
    rw [e3] at this
    cases this
    exact ⟨.junk hT, s.junk hT, .tup (.inl (.inl upd_same)) (.cons .int (.cons (e4.mono (.junk hT)) .nil))⟩
theorem repC_zip {α : List Addr} {H : Hp} {i i2 : Nat} {a b : Addr} (ea : α[i]? = some a) (eb : α[i2]? = some b) : RepC p α H (.lzip i i2) (Itz p.K a b) := by
  intro α' g' H' j k s
  have ea' := k.pre.get ea
  have eb' := k.pre.get eb
  cases h1 : lstOf (.ref i) g' with
  | none => simp [Cur.at_, h1]
  | some ws =>
    cases h2 : lstOf (.ref i2) g' with
    | none => simp [Cur.at_, h1, h2]
    | some us =>
      obtain ⟨vs, L, r⟩ := s.lstOf h1 ea'
      obtain ⟨ys, L2, r2⟩ := s.lstOf h2 eb'
      simp only [Cur.at_, h1, h2, Option.some.injEq]
      refine ⟨fun e => ?_, fun w e => ?_⟩
      · refine ⟨vs, ys, L, L2, ?_⟩
        cases c1 : ws[j]? with
        | none => exact .inl (List.getElem?_eq_none_iff.mp (r.getN c1))
        | some x =>
          cases c2 : us[j]? with
          | none => exact .inr (List.getElem?_eq_none_iff.mp (r2.getN c2))
          | some y => rw [c1, c2] at e; cases e
      · cases c1 : ws[j]? with
        | none => rw [c1] at e; cases e
        | some x =>
          cases c2 : us[j]? with
          | none => rw [c1, c2] at e; cases e
          | some y =>
            rw [c1, c2] at e
            cases e
            obtain ⟨v, e3, e4⟩ := r.get c1
            obtain ⟨v2, e5, e6⟩ := r2.get c2
            refine ⟨⟨vs, ys, v, v2, L, L2, e3, e5⟩, fun x H2 y => ?_⟩
            obtain ⟨Tp, y1, y2, rfl, hT, rfl, hx, hy⟩ := y
            have q1 := hx vs L
            have q2 := hy ys L2
            rw [e3] at q1
            rw [e5] at q2
            cases q1
            cases q2
            exact ⟨.junk hT, s.junk hT, .tup (.inl (.inl upd_same)) (.cons (e4.mono (.junk hT)) (.cons (e6.mono (.junk hT)) .nil))⟩
/-- a dict's keys; the dict is locked for good -/
def iKeysL (td : TE) : TI := fun σ H R => td σ H fun x H1 => ∃ d kvs, x = .ref d ∧ ((∃ o, H1 d = some (.frz o (.dK kvs)) ∧ R (Itk d o kvs) H1) ∨ (H1 d = some (.dK kvs) ∧ ∀ o, R (Itk d o kvs) (upd H1 d (.frz o (.dK kvs)))))
theorem pi_keysL {tg e : Expr} {td : TE} (he : PE X e td) : PI X tg e (iKeysL td) := by
  refine ⟨fun pins s σ H R I h => ?_⟩
  refine thn (he.run pins s σ H _ I h) fun u s1 ⟨x, H1, I1, rx, d, kvs, ex, q⟩ => ?_
  subst ex
  obtain rfl : u = Value.ref d := rx
  have fin : ∀ {o : Obj} {H2 : Hp}, Inv X pins σ H2 s1 → H2 d = some (.frz o (.dK kvs)) → R (Itk d o kvs) H2 → wpAny (model X.prog X.w) X.A (pyIter (.ref d)) (PIE X pins σ tg R) X.xe s1 := by
    intro o H2 I2 hd q
    obtain ⟨hs, hgd, hx, es, ep, vs, hdt, hsz, kv, hm⟩ := I2.frzK hd
    refine iter_keys hs hgd hx hdt (pi_one (tk := s1.toks) I2 _ (turn_keys _ hdt) ⟨_, Heap.get?_push_size _ rfl, rfl, ?_⟩ q)
    rw [hsz] <;> rfl
  rcases q with ⟨o, hd, q⟩ | ⟨hd, q⟩
  · exact fin I1 hd q
  · obtain ⟨od, I2⟩ := I1.lock hd trivial
    exact fin I2 upd_same (q od)
theorem keyK_V {α : List Addr} {H : Hp} {w : W} {k : Key} (e : keyK w = some k) : RepV p α H w (kV k) := by
  cases w <;> simp [keyK] at e
  · subst e; exact .int
  · subst e; exact .str
theorem RepKV.at_ {α : List Addr} {H : Hp} : ∀ {kvs : List (W × W)} {kvs' : List (Key × V)} {i : Nat} {w : W}, RepKV p α H kvs kvs' → (kvs.map (·.1))[i]? = some w → ∃ k v, kvs'[i]? = some (k, v) ∧ keyK w = some k
  | [], _, _, _, _, e => by simp at e
  | (a, b) :: r, _, 0, w, ⟨k, v, q, e, ek, rv, rr⟩, h => by
    subst e
    simp at h
    subst h
    exact ⟨k, v, rfl, ek⟩
  | (a, b) :: r, _, i + 1, w, ⟨k, v, q, e, ek, rv, rr⟩, h => by
    subst e
    obtain ⟨k2, v2, e1, e2⟩ := RepKV.at_ (i := i) (w := w) rr (by simpa using h)
    exact ⟨k2, v2, by simpa using e1, e2⟩
theorem repC_keys {α : List Addr} {H : Hp} {a : Addr} {od : Obj} {kvs : List (W × W)} {kvs' : List (Key × V)} (h : H a = some (.frz od (.dK kvs'))) (r : RepKV p α H kvs kvs') : RepC p α H (.vals (kvs.map (·.1))) (Itk a od kvs') := by
  intro α' g' H' j k s
  have h' := k.kp.f _ _ _ h
  refine ⟨fun e => ?_, fun w e => ?_⟩
  · simp only [Cur.at_, Option.some.injEq] at e
    have := List.getElem?_eq_none_iff.mp e
    refine ⟨h', ?_⟩
    rw [← r.length]
    simpa using this
  · simp only [Cur.at_, Option.some.injEq] at e
    obtain ⟨kk, v, e1, e2⟩ := r.at_ e
    refine ⟨⟨h', (List.getElem?_eq_some_iff.mp e1).1⟩, fun x H2 y => ?_⟩
    obtain ⟨rfl, k2, v2, e3, rfl⟩ := y
    rw [e1] at e3
    cases e3
    exact ⟨.refl _ _, s, keyK_V e2⟩
theorem s_seq {tg l : Expr} {l' : E} (hK : p.K = X.K) (hl : PE X l (tV p Wx T call l')) : PI X tg l (tC p Wx T call (.seq l')) :=
  PI.by fun σ H R ⟨α, ρ, g, S, E, q⟩ => by
    simp only [src] at q
    cases h : ev T call l' ρ g with
    | err => rw [h] at q; exact q.elim
    | exc c g1 =>
      rw [h] at q
      refine ⟨_, pi_list hl, α, ρ, g, S, E, ?_⟩
      rw [h]; exact q
    | ok w g1 =>
      rw [h] at q
      simp only [Dl.R.bind] at q
      cases w with
      | tup ws =>
        refine ⟨_, pi_tup hl, α, ρ, g, S, E, ?_⟩
        rw [h]
        intro α1 H1 v K1 S1 r
        obtain ⟨a, vs, rfl, TT, rs⟩ := r.tup'
        exact ⟨a, rfl, ⟨vs, hK ▸ TT⟩, post.ok (Rp := RepC p) (post.mono q K1) S1 (hK ▸ repC_tup TT rs)⟩
      | str z =>
        refine ⟨_, pi_str hl, α, ρ, g, S, E, ?_⟩
        rw [h]
        intro α1 H1 v K1 S1 r
        exact ⟨strV z, r.str', post.ok (Rp := RepC p) (post.mono q K1) S1 repC_str⟩
      | fl ws =>
        refine ⟨_, pi_list hl, α, ρ, g, S, E, ?_⟩
        rw [h]
        intro α1 H1 v K1 S1 r
        obtain ⟨a, vs, rfl, L, rs⟩ := r.fl'
        exact ⟨a, rfl, ⟨vs, hK ▸ L.sq⟩, post.ok (Rp := RepC p) (post.mono q K1) S1 (hK ▸ repC_fl L rs)⟩
      | ref i =>
        have q : post p Wx (RepC p) (match g1[i]? with
          | some (.lst _) => .ok (.live i) g1
          | some (.dct kvs) => .ok (.vals (kvs.map (·.1))) (g1.set i (.fz kvs))
          | some (.fz kvs) => .ok (.vals (kvs.map (·.1))) g1
          | _ => .err) α H σ R := q
        cases hg : g1[i]? with
        | none => rw [hg] at q; exact q.elim
        | some o =>
          rw [hg] at q
          cases o with
          | lst ws =>
            refine ⟨_, pi_list hl, α, ρ, g, S, E, ?_⟩
            rw [h]
            intro α1 H1 v K1 S1 r
            obtain ⟨a, rfl, ea⟩ := r.ref'
            obtain ⟨vs, h1, rs⟩ := S1.lst hg ea
            exact ⟨a, rfl, ⟨vs, .of h1⟩, post.ok (Rp := RepC p) (post.mono q K1) S1 (hK ▸ repC_live ea)⟩
          | dct kvs =>
            refine ⟨_, pi_keysL hl, α, ρ, g, S, E, ?_⟩
            rw [h]
            intro α1 H1 v K1 S1 r
            obtain ⟨a, rfl, ea⟩ := r.ref'
            obtain ⟨kvs', hd, rr⟩ := S1.dict hg ea
            refine ⟨a, kvs', rfl, .inr ⟨hd, fun od => ?_⟩⟩
            have kw : Kp α1 H1 α1 (upd H1 a (.frz od (.dK kvs'))) := .write (by rw [hd]; exact trivial) (List.mem_of_getElem? ea)
            exact q α1 _ _ (K1.trans kw) (S1.write hg ea ⟨od, kvs', upd_same, rr.mono (.refl _) kw.kp⟩) (repC_keys upd_same (rr.mono (.refl _) kw.kp))
          | fz kvs =>
            refine ⟨_, pi_keysL hl, α, ρ, g, S, E, ?_⟩
            rw [h]
            intro α1 H1 v K1 S1 r
            obtain ⟨a, rfl, ea⟩ := r.ref'
            obtain ⟨od, kvs', hd, rr⟩ := S1.fz hg ea
            exact ⟨a, kvs', rfl, .inl ⟨od, hd, post.ok (Rp := RepC p) (post.mono q K1) S1 (repC_keys hd rr)⟩⟩
          | _ => exact q.elim
      | _ => exact q.elim
theorem lim_int {n : Int} (h1 : n ≤ (lim : Int)) (h2 : -(lim : Int) ≤ n) : -(2 ^ 62) ≤ n ∧ n < 2 ^ 62 := by
  have : (lim : Int) = 1000000 := rfl
  omega
theorem s_rng1 {tg a : Expr} {a' : E} {q1 pos : Pos} (hg : Gl X "range") (hm : X.mg "range" = none) (ha : PA X [a] (tL p Wx T call (.cons a' .nil))) (hs : starEach [a] X.env = [(false, eval a X.env)]) : PI X tg (.Call (.Name "range" q1) [a] [] pos) (tC p Wx T call (.rng1 a')) :=
  PI.by fun σ H R ⟨α, ρ, g, S, E, q⟩ => by
    refine ⟨_, pi_range1 hg hm ha hs, α, ρ, g, S, E, ?_⟩
    simp only [src] at q
    simp only [evl]
    cases h : ev T call a' ρ g with
    | err => rw [h] at q; exact q.elim
    | exc c g1 => rw [h] at q; exact q
    | ok w g1 =>
      rw [h] at q
      simp only [Dl.R.bind] at q ⊢
      intro α1 H1 vs K1 S1 r
      obtain ⟨v, q2, rfl, r1, r⟩ := r.cons'
      have := r.nil'
      subst this
      cases w with
      | int n =>
        simp only at q
        split at q
        · rename_i c
          obtain ⟨c1, c2⟩ := lim_int c.1 c.2
          refine ⟨n, by rw [r1.int'], c1, c2, post.ok (Rp := RepC p) (post.mono q K1) S1 ?_⟩
          have e : ((List.range n.toNat).map fun (k : Nat) => W.int k) = (List.range n.toNat).map fun (k : Nat) => W.int (0 + k) := by simp
          rw [e]
          exact repC_rng
        · exact q.elim
      | _ => exact q.elim
theorem s_rng2 {tg a b : Expr} {a' b' : E} {q1 pos : Pos} (hg : Gl X "range") (hm : X.mg "range" = none) (ha : PA X [a, b] (tL p Wx T call (.cons a' (.cons b' .nil)))) (hs : starEach [a, b] X.env = [(false, eval a X.env), (false, eval b X.env)]) (hs2 : starEach [b] X.env = [(false, eval b X.env)]) :
    PI X tg (.Call (.Name "range" q1) [a, b] [] pos) (tC p Wx T call (.rng2 a' b')) :=
  PI.by fun σ H R ⟨α, ρ, g, S, E, q⟩ => by
    refine ⟨_, pi_range2 hg hm ha hs hs2, α, ρ, g, S, E, ?_⟩
    simp only [src] at q
    simp only [evl]
    cases h : ev T call a' ρ g with
    | err => rw [h] at q; exact q.elim
    | exc c g1 => rw [h] at q; exact q
    | ok w g1 =>
      rw [h] at q
      simp only [Dl.R.bind] at q ⊢
      cases h2 : ev T call b' ρ g1 with
      | err => rw [h2] at q; exact q.elim
      | exc c g1 => rw [h2] at q; exact q
      | ok u g2 =>
        rw [h2] at q
        simp only at q ⊢
        intro α1 H1 vs K1 S1 r
        obtain ⟨v, q2, rfl, r1, r⟩ := r.cons'
        obtain ⟨v2, q3, rfl, r2, r⟩ := r.cons'
        have := r.nil'
        subst this
        split at q
        · split at q
          · rename_i c
            obtain ⟨c1, c2, c3, c4⟩ := c
            obtain ⟨d1, d2⟩ := lim_int c1 c2
            obtain ⟨d3, d4⟩ := lim_int c3 c4
            exact ⟨_, _, by rw [r1.int', r2.int'], ⟨d3, d4, d1, d2⟩, post.ok (Rp := RepC p) (post.mono q K1) S1 repC_rng⟩
          · exact q.elim
        · exact q.elim
theorem repC_enumT {α : List Addr} {H : Hp} {ws : List W} {vs : List V} {a : Addr} (TT : SqT p.K H a vs) (r : RepVs p α H ws vs) : RepC p α H (.vals (ws.mapIdx fun (i : Nat) w => W.tup [.int i, w])) (DlU.IteT p.K a) := by
  intro α' g' H' j k s
  have TT' := k.kp.sq TT
  have r' := r.mono k
  refine ⟨fun e => ?_, fun w e => ?_⟩
  · simp only [Cur.at_, Option.some.injEq, List.getElem?_mapIdx, Option.map_eq_none_iff] at e
    exact ⟨vs, TT', List.getElem?_eq_none_iff.mp (r'.getN e)⟩
  · simp only [Cur.at_, Option.some.injEq, List.getElem?_mapIdx, Option.map_eq_some_iff] at e
    obtain ⟨w', e2, rfl⟩ := e
    obtain ⟨v, e3, e4⟩ := r'.get e2
    refine ⟨⟨vs, v, TT', e3⟩, fun x H2 y => ?_⟩
    obtain ⟨Tp, y', rfl, hT, rfl, hx⟩ := y
    have := hx vs TT'
    rw [e3] at this
    cases this
    exact ⟨.junk hT, s.junk hT, .tup (.inl (.inl upd_same)) (.cons .int (.cons (e4.mono (.junk hT)) .nil))⟩
theorem s_enum {a : Expr} {a' : E} {q1 pos tpos : Pos} {elts : List Expr} {kk : Nat} (hK : p.K = X.K) (hg : Gl X "enumerate") (hm : X.mg "enumerate" = none) (ha : PA X [a] (tL p Wx T call (.cons a' .nil))) (hs : starEach [a] X.env = [(false, eval a X.env)]) :
    PI X (.Tuple elts kk tpos) (.Call (.Name "enumerate" q1) [a] [] pos) (tC p Wx T call (.enum a')) :=
  PI.by fun σ H R ⟨α, ρ, g, S, E, q⟩ => by
    simp only [src] at q
    cases h : ev T call a' ρ g with
    | err => rw [h] at q; exact q.elim
    | exc c g1 =>
      rw [h] at q
      refine ⟨_, pi_enum hg hm ha hs, α, ρ, g, S, E, ?_⟩
      simp only [evl]
      rw [h]
      exact q
    | ok w g1 =>
      rw [h] at q
      simp only [Dl.R.bind] at q
      cases w with
      | tup ws =>
        refine ⟨_, DlU.pi_enumT hg hm ha hs, α, ρ, g, S, E, ?_⟩
        simp only [evl]
        rw [h]
        simp only [Dl.R.bind]
        intro α1 H1 vs K1 S1 r
        obtain ⟨v, q2, rfl, r1, r⟩ := r.cons'
        have := r.nil'
        subst this
        obtain ⟨a, vs, rfl, TT, rs⟩ := r1.tup'
        exact ⟨a, vs, rfl, hK ▸ TT, post.ok (Rp := RepC p) (post.mono q K1) S1 (hK ▸ repC_enumT TT rs)⟩
      | ref i =>
        refine ⟨_, pi_enum hg hm ha hs, α, ρ, g, S, E, ?_⟩
        simp only [evl]
        rw [h]
        simp only [Dl.R.bind]
        intro α1 H1 vs K1 S1 r
        obtain ⟨v, q2, rfl, r1, r⟩ := r.cons'
        have := r.nil'
        subst this
        obtain ⟨b, rfl, eb⟩ := r1.ref'
        simp only at q
        split at q
        · rename_i ws f
          obtain ⟨vs, h1, rs⟩ := S1.lst f eb
          exact ⟨b, vs, rfl, .of h1, post.ok (Rp := RepC p) (post.mono q K1) S1 (hK ▸ repC_enum eb)⟩
        · exact q.elim
      | _ => exact q.elim
theorem s_zip {a b : Expr} {a' b' : E} {q1 pos tpos : Pos} {elts : List Expr} {kk : Nat} (hK : p.K = X.K) (hg : Gl X "zip") (hm : X.mg "zip" = none) (ha : PA X [a, b] (tL p Wx T call (.cons a' (.cons b' .nil)))) (hs : starEach [a, b] X.env = (false, eval a X.env) :: starEach [b] X.env) (hpl : (backTo pos (starEach [b] X.env)).any (·.1) = false) :
    PI X (.Tuple elts kk tpos) (.Call (.Name "zip" q1) [a, b] [] pos) (tC p Wx T call (.zip a' b')) :=
  PI.by fun σ H R ⟨α, ρ, g, S, E, q⟩ => by
    refine ⟨_, pi_zip hg hm ha hs hpl, α, ρ, g, S, E, ?_⟩
    simp only [src] at q
    simp only [evl]
    cases h : ev T call a' ρ g with
    | err => rw [h] at q; exact q.elim
    | exc c g1 => rw [h] at q; exact q
    | ok w g1 =>
      rw [h] at q
      simp only [Dl.R.bind] at q ⊢
      cases h2 : ev T call b' ρ g1 with
      | err => rw [h2] at q; exact q.elim
      | exc c g1 => rw [h2] at q; exact q
      | ok u g2 =>
        rw [h2] at q
        simp only at q ⊢
        intro α1 H1 vs K1 S1 r
        obtain ⟨v, q2, rfl, r1, r⟩ := r.cons'
        obtain ⟨v2, q3, rfl, r2, r⟩ := r.cons'
        have := r.nil'
        subst this
        split at q
        · rename_i i j
          obtain ⟨a1, rfl, ea⟩ := r1.ref'
          obtain ⟨b1, rfl, eb⟩ := r2.ref'
          split at q
          · rename_i x y f1 f2
            obtain ⟨vs, h3, rs⟩ := S1.lst f1 ea
            obtain ⟨us, h4, rs2⟩ := S1.lst f2 eb
            exact ⟨a1, b1, vs, us, rfl, .of h3, .of h4, post.ok (Rp := RepC p) (post.mono q K1) S1 (hK ▸ repC_zip ea eb)⟩
          · exact q.elim
        · exact q.elim
end
end Dl

/-! DlI: targets, comprehensions, calls of built-ins on lists. -/
namespace Dl
open PySem L2
/-! ### targets -/
/-- a target's slots -/
def Tg.slots : Tg → List Nat
  | .nm i => [i]
  | .tp ts => ts
def gAll : List Nat → TGs
  | [] => gNil
  | i :: r => gCons (gName i) (gAll r)
def gT (K : PySem.W.Frag) : Tg → TG
  | .nm i => gName i
  | .tp ts => gTup K ts.length (gAll ts)
/-- the slots behind a store -/
def setAllV : List Nat → List V → St → St
  | i :: r, v :: q, σ => setAllV r q (σ.set i (some v))
  | _, _, σ => σ
section
variable {p : Px} {Wx : WX} {X : Cx} {T : Tbl} {call : CallF}
theorem gAll_go {α : List Addr} {H : Hp} : ∀ {ts : List Nat} {ws : List W} {vs : List V} {ρ ρ' : Env} {σ : St} {Q : St → Hp → Prop}, setAll ts ws ρ = some ρ' → RepVs p α H ws vs → SimSt p α H ρ σ →
    (∀ σ', SimSt p α H ρ' σ' → σ' = setAllV ts vs σ → Q σ' H) → gAll ts vs σ H Q
  | [], [], _, ρ, ρ', σ, Q, e, r, S, q => by
    have := r.nil'
    subst this
    simp only [setAll, Option.some.injEq] at e
    subst e
    exact ⟨rfl, q _ S rfl⟩
  | i :: ts, w :: ws, _, ρ, ρ', σ, Q, e, r, S, q => by
    obtain ⟨v, vs, rfl, r1, r2⟩ := r.cons'
    simp only [setAll] at e
    exact ⟨v, vs, rfl, gAll_go e r2 (S.set i r1) fun σ' s e => q σ' s e⟩
  | [], _ :: _, _, _, _, _, _, e, _, _, _ => by simp [setAll] at e
  | _ :: _, [], _, _, _, _, _, e, _, _, _ => by simp [setAll] at e
theorem setAll_len : ∀ {ts : List Nat} {ws : List W} {ρ ρ' : Env}, setAll ts ws ρ = some ρ' → ts.length = ws.length
  | [], [], _, _, _ => rfl
  | _ :: _, _ :: _, _, _, e => by simp only [setAll] at e; simp [setAll_len e]
  | [], _ :: _, _, _, e => by simp [setAll] at e
  | _ :: _, [], _, _, e => by simp [setAll] at e
/-- slots that a store may have changed -/
def Only' (vs : List Nat) (σ σ' : St) : Prop := σ'.length = σ.length ∧ ∀ i, i ∉ vs → σ'[i]? = σ[i]?
theorem setAllV_only : ∀ (ts : List Nat) (xs : List V) (σ : St) (vs : List Nat), (∀ i ∈ ts, i ∈ vs) → Only' vs σ (setAllV ts xs σ)
  | [], _, σ, vs, _ => by simp only [setAllV]; exact ⟨rfl, fun _ _ => rfl⟩
  | i :: ts, [], σ, vs, _ => by simp only [setAllV]; exact ⟨rfl, fun _ _ => rfl⟩
  | i :: ts, x :: xs, σ, vs, h => by
    simp only [setAllV]
    obtain ⟨a, b⟩ := setAllV_only ts xs (σ.set i (some x)) vs fun j hj => h j (List.mem_cons_of_mem _ hj)
    refine ⟨by rw [a]; simp, fun j hj => ?_⟩
    rw [b j hj, List.getElem?_set_ne]
    rintro rfl
    exact hj (h i List.mem_cons_self)
theorem gT_go {α : List Addr} {H : Hp} {t : Tg} {w : W} {v : V} {ρ ρ' : Env} {σ : St} {Q : St → Hp → Prop} {vs : List Nat} (e : t.put w ρ = some ρ') (r : RepV p α H w v) (S : SimSt p α H ρ σ) (hv : ∀ i ∈ t.slots, i ∈ vs)
    (q : ∀ σ', SimSt p α H ρ' σ' → Only' vs σ σ' → Q σ' H) : gT p.K t v σ H Q := by
  cases t with
  | nm i =>
    simp only [Tg.put, Option.some.injEq] at e
    subst e
    refine q _ (S.set i r) ⟨by simp, fun j hj => ?_⟩
    rw [List.getElem?_set_ne]
    rintro rfl
    exact hj (hv i (by simp [Tg.slots]))
  | tp ts =>
    cases w with
    | tup ws =>
      simp only [Tg.put] at e
      obtain ⟨a, xs, rfl, TT, rs⟩ := r.tup'
      exact ⟨a, xs, rfl, TT, by rw [← rs.length, setAll_len e], gAll_go e rs S fun σ' s e' => q σ' s (by rw [e']; exact setAllV_only ts xs σ vs hv)⟩
    | _ => simp [Tg.put] at e
theorem wipe_get (σ : St) (i : Nat) : ∀ vs : List Nat, (wipe σ vs)[i]? = if i ∈ vs ∧ i < σ.length then some none else σ[i]?
  | [] => by simp [wipe]
  | v :: vs => by
    simp only [wipe]
    by_cases h : v = i
    · subst h
      by_cases hl : v < σ.length
      · rw [List.getElem?_set_self (by rw [wipe_length]; exact hl)]; simp [hl]
      · rw [List.getElem?_eq_none_iff.mpr (by simp [wipe_length]; omega), if_neg (by omega)]
        exact (List.getElem?_eq_none_iff.mpr (by omega)).symm
    · rw [List.getElem?_set_ne h, wipe_get σ i vs]
      have : i ∈ v :: vs ↔ i ∈ vs := by simp [Ne.symm h]
      simp only [this]
theorem wipe_same {σ σ' : St} {vs : List Nat} (h : Only' vs (wipe σ vs) σ') : wipe σ' vs = wipe σ vs := by
  apply List.ext_getElem?
  intro i
  rw [wipe_get, wipe_get, h.1, wipe_length]
  by_cases hi : i ∈ vs
  · by_cases hl : i < σ.length
    · rw [if_pos ⟨hi, hl⟩, if_pos ⟨hi, hl⟩]
    · rw [if_neg (fun z => hl z.2), if_neg (fun z => hl z.2)]
      rw [List.getElem?_eq_none_iff.mpr (by rw [h.1, wipe_length]; omega), List.getElem?_eq_none_iff.mpr (by omega)]
  · rw [if_neg (fun z => hi z.1), if_neg (fun z => hi z.1), h.2 i hi, wipe_get, if_neg (fun z => hi z.1)]
theorem SimSt.weak {α : List Addr} {H : Hp} {ρ : Env} {σ σ' : St} (s : SimSt p α H ρ σ) (h : σ' = σ) : SimSt p α H ρ σ' := h ▸ s
/-! ### the items of a new list -/
/-- a list that was just laid, not of the heap that is told -/
def RepN (p : Px) (α : List Addr) (H : Hp) (ws : List W) (v : V) : Prop := ∃ D vs, v = .ref D ∧ H D = some (.lst vs) ∧ D ∉ α ∧ RepVs p α H ws vs
def RepI (p : Px) (α : List Addr) (H : Hp) (ws : List W) (v : V) : Prop := ∃ D vs, v = .ref D ∧ SqL p.K H D vs ∧ RepVs p α H ws vs
theorem RepN.i {α : List Addr} {H : Hp} {ws : List W} {v : V} (h : RepN p α H ws v) : RepI p α H ws v := let ⟨D, vs, e, h1, _, r⟩ := h; ⟨D, vs, e, .of h1, r⟩
theorem Sim.adopt {α : List Addr} {g : G} {H : Hp} {D : Addr} {vs : List V} {ws : List W} (s : Sim p α g H) (h : H D = some (.lst vs)) (n : D ∉ α) (r : RepVs p α H ws vs) : Sim p (α ++ [D]) (g ++ [.lst ws]) H := by
  have lt : ∀ {i : Nat} {o' : Ob} {a : Addr}, (g ++ [Ob.lst ws])[i]? = some o' → (α ++ [D])[i]? = some a → (g[i]? = some o' ∧ α[i]? = some a) ∨ (i = g.length ∧ o' = .lst ws ∧ a = D) := by
    intro i o' a e1 e2
    by_cases hi : i < g.length
    · rw [List.getElem?_append_left hi] at e1
      rw [List.getElem?_append_left (by rw [s.len]; exact hi)] at e2
      exact .inl ⟨e1, e2⟩
    · have : i = g.length := by
        have := (List.getElem?_eq_some_iff.mp e1).1
        simp at this
        omega
      subst this
      rw [List.getElem?_append_right (Nat.le_refl _)] at e1
      rw [← s.len, List.getElem?_append_right (Nat.le_refl _)] at e2
      simp at e1 e2
      exact .inr ⟨rfl, e1.symm, e2.symm⟩
  refine ⟨by simp [s.len], fun i o' a e1 e2 => ?_, ?_⟩
  · rcases lt e1 e2 with ⟨x, y⟩ | ⟨x, y, z⟩
    · exact (s.ob i o' a x y).mono ⟨[D], rfl⟩ (.refl _) rfl
    · subst y z; exact ⟨vs, h, r.mono0 ⟨[a], rfl⟩ (.refl _)⟩
  · rw [List.nodup_append]
    refine ⟨s.nd, by simp, fun a ha b hb => ?_⟩
    have : b = D := by simpa using hb
    subst this
    rintro rfl
    exact n ha
/-- a new list at D, told or not -/
def postN (p : Px) (Wx : WX) (r : R (List W)) (α : List Addr) (H : Hp) (σ : St) (Q : VK) : Prop := match r with
  | .ok ws g' => ∀ α' H' D vs, Kp α H α' H' → Sim p α' g' H' → H' D = some (.lst vs) → D ∉ α' → Kp α H (α' ++ [D]) H' → RepVs p α' H' ws vs → Q (.ref D) H'
  | .exc c g' => ∀ α' H', Kp α H α' H' → Sim p α' g' H' → Wx (.ref (p.xa c)) none σ H'
  | .err => False
def tN (p : Px) (Wx : WX) (f : Env → G → R (List W)) : TE := fun σ H Q => ∃ α ρ g, Sim p α g H ∧ SimSt p α H ρ σ ∧ postN p Wx (f ρ g) α H σ Q
theorem postN.mono {r : R (List W)} {α α' : List Addr} {H H' : Hp} {σ : St} {Q : VK} (h : postN p Wx r α H σ Q) (k : Kp α H α' H') : postN p Wx r α' H' σ Q := by
  cases r with
  | ok w g => exact fun α2 H2 D vs b c d e f z => h α2 H2 D vs (k.trans b) c d e (k.trans f) z
  | exc c g => exact fun α2 H2 b c => h α2 H2 (k.trans b) c
  | err => exact h
theorem alloc_go {f : Env → G → R (List W)} {σ : St} {H : Hp} {Q : VK} (h : tE p Wx (fun ρ g => (f ρ g).bind fun ws g2 => .ok (.ref g2.length) (g2 ++ [.lst ws])) σ H Q) : tN p Wx f σ H Q := by
    obtain ⟨α, ρ, g, S, E, q⟩ := h
    refine ⟨α, ρ, g, S, E, ?_⟩
    simp only at q
    cases hr : f ρ g with
    | err => rw [hr] at q; exact q
    | exc c g1 => rw [hr] at q; exact q
    | ok ws g1 =>
      rw [hr] at q
      intro α1 H1 D vs k1 S1 hD nD k2 rs
      exact q (α1 ++ [D]) H1 (.ref D) k2 (S1.adopt hD nD rs) (.ref (by rw [← S1.len]; simp))
theorem alloc_of {e : Expr} {f : Env → G → R (List W)} (h : PE X e (tN p Wx f)) : PE X e (tE p Wx fun ρ g => (f ρ g).bind fun ws g2 => .ok (.ref g2.length) (g2 ++ [.lst ws])) :=
  PE.by fun σ H Q q => ⟨_, h, alloc_go q⟩
theorem items_of {e : Expr} {f : Env → G → R (List W)} (h : PE X e (tN p Wx f)) : PE X e (tG p Wx (RepI p) f) :=
  PE.by fun σ H Q ⟨α, ρ, g, S, E, q⟩ => by
    refine ⟨_, h, α, ρ, g, S, E, ?_⟩
    cases hr : f ρ g with
    | err => rw [hr] at q; exact q
    | exc c g1 => rw [hr] at q; exact q
    | ok ws g1 =>
      rw [hr] at q
      intro α1 H1 D vs k1 S1 hD nD k2 rs
      exact q α1 H1 (.ref D) k1 S1 ⟨D, vs, rfl, .of hD, rs⟩
/-- what a comprehension has still to give, acc being made -/
def accN (r : R (List W)) (acc : List W) : R (List W) := r.bind fun xs g => .ok (acc ++ xs) g
theorem accN_nil (r : R (List W)) : accN r [] = r := by cases r <;> rfl
def WF : WX := fun _ _ _ _ => False
/-- the block of a comprehension at work -/
abbrev Blk (X : Cx) (scope : Scope) (P : Cx → Prop) : Prop := ∀ (s : Shared) (H : Hp) (C : Addr) (cl : List (Str × Addr)) (fp : List Addr), P (X.blk s H scope (compEnvC scope cl C X.env) fp)
/-- one turn: the target, the test, the element; k: what follows -/
theorem comp_turn {t : Tg} {c : E} {el : E} {α αs : List Addr} {H Hs : Hp} {D : Addr} {acc : List W} {vs : List V} {w : W} {x : V} {ρ ρ' : Env} {σ : St} {g : G} {Q : VK} {own : List Nat} {Nx : Hp → Prop}
    {tt : TT} {te : TE} (htt : tt = tB p WF (tst T call c)) (hte : te = tE p WF (ev T call el)) (k0 : G → R (List W))
    (e : t.put w (wipeE ρ own) = some ρ') (r : RepV p α H w x) (S : Sim p α g H) (E : SimSt p α H (wipeE ρ own) (wipe σ own)) (hv : ∀ i ∈ t.slots, i ∈ own) (hD : H D = some (.lst vs)) (nD : D ∉ α) (ra : RepVs p α H acc vs) (k : Kp αs Hs α H) (hs : Hs D = none) (hacc : acc.length + 1 ≤ lim)
    (q : postN p Wx (accN ((tst T call c ρ' g).nx.bind fun b g1 => match b with
        | false => k0 g1
        | true => (ev T call el ρ' g1).nx.bind fun x g2 => (k0 g2).bind fun xs g3 => .ok (x :: xs) g3) acc) αs Hs σ Q)
    (hN1 : ∀ α' g' H' vs', Kp αs Hs α' H' → Sim p α' g' H' → H' D = some (.lst vs') → D ∉ α' → RepVs p α' H' acc vs' → postN p Wx (accN (k0 g') acc) αs Hs σ Q → Nx H')
    (hN2 : ∀ α' g' H' vs' y, Kp αs Hs α' H' → Sim p α' g' H' → H' D = some (.lst vs') → D ∉ α' → RepVs p α' H' (acc ++ [y]) vs' → postN p Wx (accN (k0 g') (acc ++ [y])) αs Hs σ Q → Nx H') :
    gT p.K t x (wipe σ own) H fun σ2 H2 => wipe σ2 own = wipe σ own ∧ tt σ2 H2 fun b H3 =>
      if b = true then te σ2 H3 fun y H4 => ∃ acc, H4 D = some (.lst acc) ∧ acc.length < sizeLine ∧ Nx (upd H4 D (.lst (acc ++ [y]))) else Nx H3 := by
  refine gT_go e r E hv fun σ2 E2 o2 => ⟨wipe_same o2, ?_⟩
  subst htt hte
  refine ⟨α, ρ', g, S, E2, ?_⟩
  cases hb : tst T call c ρ' g with
  | err => rw [hb] at q; exact q.elim
  | exc c g1 => rw [hb] at q; exact q.elim
  | ok b g1 =>
    rw [hb] at q
    intro α1 H1 b' k1 S1 eb
    have eb : b' = b := eb
    subst eb
    obtain ⟨hD1, nD1⟩ := k1.fr D _ hD nD
    cases b' with
    | false =>
      rw [if_neg (by decide)]
      exact hN1 α1 g1 H1 vs (k.trans k1) S1 hD1 nD1 (ra.mono k1) q
    | true =>
      rw [if_pos rfl]
      refine ⟨α1, ρ', g1, S1, E2.mono k1, ?_⟩
      cases he : ev T call el ρ' g1 with
      | err => simp only [accN, R.bind, R.nx, he] at q; exact q.elim
      | exc c g2 => simp only [accN, R.bind, R.nx, he] at q; exact q.elim
      | ok y g2 =>
        simp only [accN, R.bind, R.nx, he] at q
        intro α2 H2 yv k2 S2 ry
        obtain ⟨hD2, nD2⟩ := k2.fr D _ hD1 nD1
        have ra2 := (ra.mono k1).mono k2
        have hl := ra2.length
        refine ⟨vs, hD2, by have := lim_line; omega, ?_⟩
        have mu : Mut (H2 D) := by rw [hD2]; exact trivial
        have kk : Kp αs Hs α2 H2 := (k.trans k1).trans k2
        have kw : Keep H2 (upd H2 D (.lst (vs ++ [yv]))) := .write mu
        have kk' : Kp αs Hs α2 (upd H2 D (.lst (vs ++ [yv]))) := ⟨kk.pre, kk.kp.trans kw, fun a u e n => by
          obtain ⟨e1, n1⟩ := kk.fr a u e n
          exact ⟨by rw [upd_ne (ne_of_none e hs)]; exact e1, n1⟩⟩
        refine hN2 α2 g2 _ (vs ++ [yv]) y kk' (S2.mono kw fun a u _ _ ha => by
          rw [upd_ne]
          rintro rfl
          exact nD2 ha) upd_same nD2 ((ra2.mono0 (.refl _) kw).append (.cons (ry.mono0 (.refl _) kw) .nil)) ?_
        simp only [accN]
        cases hk : k0 g2 with
        | err => rw [hk] at q; exact q
        | exc c g3 => rw [hk] at q; exact q
        | ok xs g3 =>
          rw [hk] at q
          simp only [R.bind, List.append_assoc, List.cons_append, List.nil_append] at q ⊢
          exact q
/-- a list comprehension of one clause -/
theorem comp_go {own : List Nat} {t : Tg} {s : Src} {c el : E} (hv : ∀ i ∈ t.slots, i ∈ own) {σ : St} {H : Hp} {Q : VK} (h : tN p Wx (its T call (.comp own t s c el)) σ H Q) : tLc (tC p Wx T call s) (gT p.K t) (tB p WF (tst T call c)) (tE p WF (ev T call el)) own σ H Q := by
    obtain ⟨α, ρ, g, S, E, q⟩ := h
    refine ⟨α, ρ, g, S, E, ?_⟩
    simp only [its] at q
    cases hsrc : src T call s ρ g with
    | err => rw [hsrc] at q; exact q
    | exc c g1 => rw [hsrc] at q; exact q
    | ok cur g1 =>
      rw [hsrc] at q
      intro αs Hs J ks Ss rc D hDn
      have q := postN.mono q ks
      have Es := (E.mono ks).wipe own
      have kj : Kp αs Hs αs (upd Hs D (.lst [])) := .junk hDn
      have nDs : D ∉ αs := fun hm => by
        obtain ⟨u, hu⟩ := Ss.trk hm
        rw [hDn] at hu; cases hu
      have Sj := Ss.junk (u := .lst []) hDn
      have stopK : ∀ {α H}, Kp αs Hs α H → Kp αs Hs (α ++ [D]) H := fun {α H} k => ⟨k.pre.trans ⟨[D], rfl⟩, k.kp, fun a u e n => by
        obtain ⟨e1, n1⟩ := k.fr a u e n
        refine ⟨e1, fun hm => ?_⟩
        rcases List.mem_append.mp hm with hm | hm
        · exact n1 hm
        · have : a = D := by simpa using hm
          subst this
          rw [hDn] at e; cases e⟩
      -- the two kinds of walks
      have run : ∀ (rest : Nat → Nat → G → R (List W)), (∀ i m g, cur.at_ i g = some none → ∀ acc, postN p Wx (accN (rest i m g) acc) αs Hs σ Q → ∃ g', rest i m g = .ok [] g' ∧ g' = g) →
          (∀ i m g, cur.at_ i g = none → ∀ acc, postN p Wx (accN (rest i m g) acc) αs Hs σ Q → False) →
          (∀ i m g w, cur.at_ i g = some (some w) → ∀ acc, acc.length ≤ i → postN p Wx (accN (rest i m g) acc) αs Hs σ Q → ∃ m', m = m' + 1 ∧ i + 1 ≤ lim ∧ ∃ ρ', t.put w (wipeE ρ own) = some ρ' ∧
            rest i m g = (tst T call c ρ' g).nx.bind fun b g1 => match b with
              | false => rest (i + 1) m' g1
              | true => (ev T call el ρ' g1).nx.bind fun x g2 => (rest (i + 1) m' g2).bind fun xs g3 => .ok (x :: xs) g3) →
          (∃ m0, postN p Wx (rest 0 m0 g1) αs Hs σ Q) →
          ∃ Wn : Nat → Nat → Hp → Prop, (∃ m, Wn 0 m (upd Hs D (.lst []))) ∧ ∀ i m H, Wn i m H →
            (J.stop i H ∧ Q (.ref D) H) ∨ (J.go i H ∧ ∃ Nx : Hp → Prop, (∀ H', Nx H' → ∃ m', m' < m ∧ Wn (i + 1) m' H') ∧ ∀ x H', J.yld i H x H' → gT p.K t x (wipe σ own) H' fun σ2 H2 => wipe σ2 own = wipe σ own ∧ tB p WF (tst T call c) σ2 H2 fun b H3 =>
              if b = true then tE p WF (ev T call el) σ2 H3 fun y H4 => ∃ acc, H4 D = some (.lst acc) ∧ acc.length < sizeLine ∧ Nx (upd H4 D (.lst (acc ++ [y]))) else Nx H3) := by
        intro rest hstop hno hgo ⟨m0, q0⟩
        refine ⟨fun i m H => ∃ α g acc vs, Kp αs Hs α H ∧ Sim p α g H ∧ H D = some (.lst vs) ∧ D ∉ α ∧ RepVs p α H acc vs ∧ acc.length ≤ i ∧ postN p Wx (accN (rest i m g) acc) αs Hs σ Q,
          ⟨m0, αs, g1, [], [], kj, Sj, upd_same, nDs, .nil, Nat.zero_le _, by rw [accN_nil]; exact q0⟩, ?_⟩
        rintro i m H ⟨α, g, acc, vs, k, S, hD, nD, ra, hl, q⟩
        obtain ⟨c1, c2⟩ := rc α g H i k S
        cases hc : cur.at_ i g with
        | none => exact (hno i m g hc acc q).elim
        | some o =>
          cases o with
          | none =>
            obtain ⟨g', e1, e2⟩ := hstop i m g hc acc q
            subst e2
            rw [e1] at q
            simp only [accN, R.bind, List.append_nil] at q
            exact .inl ⟨c1 hc, q α H D vs k S hD nD (stopK k) ra⟩
          | some w =>
            obtain ⟨m', rfl, hlim, ρ', e1, e2⟩ := hgo i m g w hc acc hl q
            obtain ⟨d1, d2⟩ := c2 w hc
            rw [e2] at q
            refine .inr ⟨d1, fun H' => ∃ α g acc vs, Kp αs Hs α H' ∧ Sim p α g H' ∧ H' D = some (.lst vs) ∧ D ∉ α ∧ RepVs p α H' acc vs ∧ acc.length ≤ i + 1 ∧ postN p Wx (accN (rest (i + 1) m' g) acc) αs Hs σ Q, fun H' h => ⟨m', by omega, h⟩, fun x H' y => ?_⟩
            obtain ⟨k2, S2, r2⟩ := d2 x H' y
            obtain ⟨hD2, nD2⟩ := k2.fr D _ hD nD
            exact comp_turn (own := own) rfl rfl (rest (i + 1) m') e1 r2 S2 ((Es.mono k).mono k2) hv hD2 nD2 (ra.mono k2) (k.trans k2) hDn (by omega) q
              (fun α' g' H' vs' a1 a2 a3 a4 a5 a6 => ⟨α', g', acc, vs', a1, a2, a3, a4, a5, by omega, a6⟩)
              (fun α' g' H' vs' y a1 a2 a3 a4 a5 a6 => ⟨α', g', acc ++ [y], vs', a1, a2, a3, a4, a5, by simp; omega, a6⟩)
      have live : cur.at_ 0 g1 = cur.at_ 0 g1 := rfl
      have mkL : ∀ (hq : postN p Wx (compL t (tst T call c) (ev T call el) (wipeE ρ own) cur FUEL 0 g1) αs Hs σ Q), _ := fun hq =>
        run (fun i m g => if i + m ≤ lim then compL t (tst T call c) (ev T call el) (wipeE ρ own) cur m i g else .err) (fun i m g hc acc q => by
            try simp only at q ⊢
            split at q
            · rename_i hh
              rw [if_pos hh]
              cases m with
              | zero => exact q.elim
              | succ m => simp only [compL, hc]; exact ⟨g, rfl, rfl⟩
            · exact q.elim)
          (fun i m g hc acc q => by
            try simp only at q
            split at q
            · cases m with
              | zero => exact q.elim
              | succ m => simp only [compL, hc] at q; exact q.elim
            · exact q.elim)
          (fun i m g w hc acc hl q => by
            try simp only at q ⊢
            split at q
            · rename_i hh
              cases m with
              | zero => exact q.elim
              | succ m =>
                refine ⟨m, rfl, by omega, ?_⟩
                rw [if_pos hh]
                simp only [compL, hc] at q ⊢
                cases hp : t.put w (wipeE ρ own) with
                | none => rw [hp] at q; exact q.elim
                | some ρ' =>
                  refine ⟨ρ', rfl, ?_⟩
                  simp only [show i + 1 + m ≤ lim by omega, if_true]
                  all_goals first | rfl | (congr 1; done) | (congr 1; funext b g1; cases b <;> rfl)
            · exact q.elim)
          ⟨FUEL, by simp only [show 0 + FUEL ≤ lim from by decide, if_true]; exact hq⟩
      cases cur with
      | vals ws =>
        simp only [R.bind] at q
        split at q
        · rename_i hw
          refine run (fun i m g => if m = ws.length - i ∧ i ≤ ws.length then compV t (tst T call c) (ev T call el) (wipeE ρ own) (ws.drop i) g else .err) (fun i m g hc acc q => ?_) (fun i m g hc acc q => ?_) (fun i m g w hc acc hl q => ?_) ⟨ws.length, by simpa using q⟩
          · simp only [Cur.at_, Option.some.injEq] at hc
            try simp only at q ⊢
            split at q
            · rename_i hh
              rw [if_pos hh, List.drop_eq_nil_of_le (List.getElem?_eq_none_iff.mp hc)]
              exact ⟨g, rfl, rfl⟩
            · exact q.elim
          · simp [Cur.at_] at hc
          · simp only [Cur.at_, Option.some.injEq] at hc
            try simp only at q ⊢
            split at q
            · rename_i hh
              obtain ⟨hlt, hw'⟩ := List.getElem?_eq_some_iff.mp hc
              have hdr : ws.drop i = w :: ws.drop (i + 1) := by rw [List.drop_eq_getElem_cons hlt, hw']
              rw [if_pos hh]
              rw [hdr] at q ⊢
              refine ⟨ws.length - (i + 1), by omega, by omega, ?_⟩
              simp only [compV] at q ⊢
              cases hp : t.put w (wipeE ρ own) with
              | none => rw [hp] at q; exact q.elim
              | some ρ' =>
                refine ⟨ρ', rfl, ?_⟩
                simp only [show (ws.length - (i + 1) = ws.length - (i + 1) ∧ i + 1 ≤ ws.length) from ⟨rfl, hlt⟩, and_self, if_true]
                all_goals first | rfl | (congr 1; done) | (congr 1; funext b g1; cases b <;> rfl)
            · exact q.elim
        · exact q.elim
      | live i => exact mkL q
      | lenum i => exact mkL q
      | lzip i j => exact mkL q
theorem comp_core {elt tg iter : Expr} {ifs : List Expr} {scope : Scope} {own : List (Str × Nat)} {pos : Pos} {t : Tg} {s : Src} {c el : E} (hK : p.K = X.K)
    (hd : ∀ (wi : TI) (g : TG) (tt : TT) (te : TE), wi = tC p Wx T call s → g = gT p.K t → tt = tB p WF (tst T call c) → te = tE p WF (ev T call el) → PE X (.ListComp elt [⟨tg, iter, ifs, 0⟩] scope pos) (tLc wi g tt te (own.map (·.2)))) (hv : ∀ i ∈ t.slots, i ∈ own.map (·.2)) :
    PE X (.ListComp elt [⟨tg, iter, ifs, 0⟩] scope pos) (tN p Wx (its T call (.comp (own.map (·.2)) t s c el))) :=
  PE.by fun σ H Q q => ⟨_, hd _ _ _ _ rfl rfl rfl rfl, comp_go hv q⟩
end
end Dl

/-! DlV: how many texts of a list differ: len(set(names)). -/
namespace DlSets
open PySem PySem.Spec PyProof.Rows
/-- how many differ, the last first -/
def dcR {α : Type} [BEq α] : List α → Nat
  | [] => 0
  | x :: r => if r.any (· == x) then dcR r else dcR r + 1
theorem dcR_le {α : Type} [BEq α] : ∀ l : List α, dcR l ≤ l.length
  | [] => Nat.le_refl _
  | x :: r => by
    have := dcR_le r
    simp only [dcR, List.length_cons]
    split <;> omega
abbrev inL (xs : List Str) (i : Nat) : Str → Bool := fun z => (xs.take i).any (· == z)
abbrev nL (xs : List Str) (i : Nat) : Nat := dcR (xs.take i).reverse
theorem inL_succ {xs : List Str} {i : Nat} (hi : i < xs.length) (z : Str) : inL xs (i + 1) z = (inL xs i z || decide (z = xs.getD i Str.empty)) := by
  have e : xs.getD i Str.empty = xs[i] := by simp [List.getD, hi]
  rw [e]
  show (xs.take (i + 1)).any _ = _
  rw [List.take_succ_eq_append_getElem hi, List.any_append]
  congr 1
  by_cases q : z = xs[i]
  · subst q; simp
  · have : (xs[i] == z) = false := by simpa using fun e : xs[i] = z => q e.symm
    simp [this, q]
theorem nL_succ {xs : List Str} {i : Nat} (hi : i < xs.length) : nL xs (i + 1) = if inL xs i (xs.getD i Str.empty) then nL xs i else nL xs i + 1 := by
  have e : xs.getD i Str.empty = xs[i] := by simp [List.getD, hi]
  rw [e]
  show dcR (xs.take (i + 1)).reverse = _
  rw [List.take_succ_eq_append_getElem hi, List.reverse_append]
  show (if ((xs.take i).reverse).any (· == xs[i]) then _ else _) = _
  rw [List.any_reverse]
  rfl
section
variable {prog : Program} {w : World} {A : Around} {R : Result → Shared → Prop} {it : Addr} {fp wr : List Addr} {Gn : Array GenState → Array GenState → Prop} {n : Nat} {Pv : Nat → Value → Prop} {Sg : Nat → Shared → Prop}
theorem fill_texts (W : WalksS prog w A.in1 it fp wr Gn n Pv Sg) (D : Addr) (hD : D ∉ fp) (xs : List Str) (hx : xs.length = n) (hb : n + 1 < scanBound)
    (hv : ∀ i v, Pv i v → ∃ t, v = .str (xs.getD i Str.empty) t) : ∀ (k i : Nat) (s : Shared), n - i = k → i ≤ n → Sg i s → s.heap.SetOf (PySem.strKind prog w) D (inL xs i) (nL xs i) →
      (∀ s', Moved (D :: wr) Gn s s' → s'.heap.SetOf (PySem.strKind prog w) D (inL xs n) (nL xs n) → R (.ok (.ret .none)) s') →
      codeAny (model prog w) A (.builtin "set.update.loop" ⟨[.ref D, .ref it], []⟩) R s := by
  have hDw : D ∉ wr := fun h => hD (W.sub _ h)
  have more : ∀ b ∈ wr, b ∈ D :: wr := fun b h => List.mem_cons_of_mem _ h
  have stay : ∀ {s s' : Shared} {S : Str → Bool} {m : Nat}, (∀ b o, b ∉ wr → s.heap.get? b = some o → s'.heap.get? b = some o) → s.heap.SetOf (PySem.strKind prog w) D S m → s'.heap.SetOf (PySem.strKind prog w) D S m := by
    rintro s s' S m k ⟨o, es, ep, t, e, more⟩
    exact ⟨o, es, ep, t, k D o hDw e, more⟩
  intro k
  induction k with
  | zero =>
    intro i s hk hi st hS hR
    obtain rfl : i = n := by omega
    refine codeAny_builtin PyProof.Rows.F.entry_set_update_loop ?_
    rw [Around.under_plainId PyProof.Rows.F.plain_set_update_loop _]
    show wpAny _ A.in1 (pyNext (.ref it) >>= _) _ _ s
    refine wpAny_bind (W.done s _ _ st fun s1 mv => ?_)
    exact wpAny_pure (hR s1 (mv.mono more) (stay mv.heap hS))
  | succ k ih =>
    intro i s hk hi st hS hR
    have hlt : i < n := by omega
    refine codeAny_builtin PyProof.Rows.F.entry_set_update_loop ?_
    rw [Around.under_plainId PyProof.Rows.F.plain_set_update_loop _]
    show wpAny _ A.in1 (pyNext (.ref it) >>= _) _ _ s
    refine wpAny_bind (W.item i s _ _ hlt st fun v s1 hP st1 mv => ?_)
    obtain ⟨t, rfl⟩ := hv i v hP
    have hS1 := stay mv.heap hS
    show wpAny _ A.in1 (holding [Value.str (xs.getD i Str.empty) t] (setAdd D (Value.str (xs.getD i Str.empty) t)) >>= _) _ _ s1
    refine wpAny_bind (wpAny_holding ?_)
    unfold setAdd
    refine wpAny_holding (wpAny_bind ((PySem.strKind prog w).pyHash (k := xs.getD i Str.empty) (strKind_is _ _ (xs.getD i Str.empty) t) ?_))
    have hle : nL xs i ≤ n := by
      have := dcR_le (xs.take i).reverse
      simp at this
      show dcR _ ≤ n
      omega
    refine wpAny_setAddHashed_of (knd := PySem.strKind prog w) (s := { s1 with toks := s1.toks + 1 }) (strKind_is _ _ _ _) rfl hS1 (by omega) fun h2 sb hS2 => ?_
    have hS3 : h2.SetOf (PySem.strKind prog w) D (inL xs (i + 1)) (nL xs (i + 1)) := SetOf_congr hS2 (fun z => (inL_succ (by omega) z).symm) (nL_succ (by omega)).symm
    refine wpAny_pure ⟨plainId_quiet PyProof.Rows.F.plain_set_update_loop _, ih (i + 1) _ (by omega) hlt (W.frame _ s1 _ _ st1 (Nat.le_succ _) fun b hb o e => ?_) hS3 fun s2 mv2 hS4 => ?_⟩
    · rw [sb.2 b (by rintro rfl; exact hD hb)]; exact e
    · refine hR s2 (Moved.trans W.gtrans ((mv.mono more).then_heap (Nat.le_succ _) fun b o hb e => ?_) mv2) hS4
      rw [sb.2 b (by rintro rfl; exact hb List.mem_cons_self)]; exact e
end
section
variable {prog : Program} {w : World} {A : Around} {E : Value → Shared → Prop} {s : Shared}
theorem set_of_texts {l : Addr} {items : Array Value} {xs : List Str} {Q : Value → Shared → Prop} (hh : A.handled = none) (hl : s.heap.IsList l items) (hi : PyProof.Rows.StrsAre items.toList xs) (hb : xs.length + 1 < scanBound)
    (h : ∀ (h2 : Heap) (tk : Nat), h2.SetOf (PySem.strKind prog w) s.heap.objs.size (inL xs items.size) (nL xs items.size) → (∀ b o, b < s.heap.objs.size → s.heap.get? b = some o → h2.get? b = some o) → Q (.ref s.heap.objs.size) { s with heap := h2, toks := tk }) :
    wpAny (model prog w) A (call (.type "set") [.ref l]) Q E s := by
  obtain ⟨cl, tl, mro⟩ := PySem.F.called_set.mro
  have k1 := PySem.F.called_set.made
  have k2 := PySem.F.called_set.sub
  have k3 := PySem.F.called_set.notType
  have k4 := PySem.F.called_set.canCreate
  have k5 := PySem.F.typeCall_set_1 (.ref l)
  refine wpAny_call (codeAny_of_tree ?_)
  show wpAny _ _ (callAny (.type "set") _) _ _ _
  refine wpAny_pure ⟨Code.quiet_builtin _ (by decide +kernel), codeAny_builtin PySem.F.entry_type_call ?_⟩
  rw [Around.under_plain (weight_type_call_type "set" [.ref l] []) rfl]
  repeat (any_goals (first | assumption | wp_step))
  refine codeAny_mono (code_set_new_1 (.ref l) (E := E) (Q₁ := fun ob s1 => ∃ led : Bool, ob = .ref s.heap.objs.size ∧ s1 = { s with heap := s.heap.push { cls := .type "set", dict := none, data := .set #[] 0 (.fresh 0 0 led) } }) fun led => ⟨led, rfl, rfl⟩) fun r s1 hr => ?_
  cases r with
  | error e => exact hr
  | ok fl =>
    cases fl with
    | ret ob =>
      obtain ⟨led, rfl, rfl⟩ := hr
      generalize hN : s.heap.push { cls := .type "set", dict := none, data := .set #[] 0 (.fresh 0 0 led) } = hn
      have hs : hn.get? s.heap.objs.size = some { cls := .type "set", dict := none, data := .set #[] 0 (.fresh 0 0 led) } := by rw [← hN]; exact Heap.get?_push_size _ rfl
      have hT : Shared.TypeIs { s with heap := hn } (.ref s.heap.objs.size) "set" := ⟨_, hs, rfl⟩
      have k6 := PySem.F.called_set.init.lookup
      have k7 := PySem.F.called_set.init.bind (.ref s.heap.objs.size)
      repeat (any_goals (first | assumption | wp_step))
      refine codeAny_mono (codeAny_call_builtin (R := wants (fun r s2 => r = .none ∧ ∃ h2 tk, s2 = { s with heap := h2, toks := tk } ∧ h2.SetOf (PySem.strKind prog w) s.heap.objs.size (inL xs items.size) (nL xs items.size) ∧
          ∀ b o, b < s.heap.objs.size → s.heap.get? b = some o → h2.get? b = some o) E) PySem.F.called_set.init.plain PySem.F.entry_set_init (check_set_init_1 hT ?_)) fun r2 s2 hr2 => ?_
      · obtain ⟨⟨c0, d0, a0, sl0⟩, hol, hcl, nl, hdl⟩ := hl
        simp only at hcl hdl
        subst hcl hdl
        have hol2 : hn.get? l = some { cls := .type "list", dict := d0, data := .seq items nl, slots := sl0 } := by rw [← hN]; exact Heap.get?_push_of_some _ hol
        have q1 := PySem.F.sub_list_set
        have q2 := PySem.F.sub_list_frozenset
        have q3 : (Value.type "list" == Value.type "dict") = false := by decide
        have hl1 : hn.IsList l items := ⟨_, hol2, rfl, nl, rfl⟩
        unfold Builtin.«set.__init__» noKeywords Builtin.Frozenset.updateFrom
        generalize hPI : pyIter = PI
        wp_walk
        subst hPI
        refine wpAny_pyIter_list hl1 (wpAny_bind (wpAny_runValue ?_))
        have ls : l < s.heap.objs.size := Heap.lt_size hol
        have sz : hn.objs.size = s.heap.objs.size + 1 := by rw [← hN]; exact Heap.size_push ..
        have ne1 : l ≠ hn.objs.size := by rw [sz]; exact Nat.ne_of_lt (Nat.lt_succ_of_lt ls)
        have nf : s.heap.objs.size ∉ [hn.objs.size, l] := by
          rw [sz]
          simp only [List.mem_cons, List.not_mem_nil, or_false, not_or]
          exact ⟨Nat.ne_of_lt (Nat.lt_succ_self _), Nat.ne_of_gt ls⟩
        have hz : xs.length = items.size := by rw [← StrsAre.len_eq hi, Array.length_toList]
        refine fill_texts ((Walks.list (show A.in1.in1.in1.handled = none by simp [hh]) _ l ne1 items).toS) s.heap.objs.size nf xs hz (by omega) (fun i v hv => SS.strs_at hi i v (by rw [Array.getElem?_toList]; exact hv)) (items.size - 0) 0 _ (by omega) (Nat.zero_le _)
          ⟨⟨_, Heap.get?_push_size _ rfl, rfl, rfl⟩, (hl1.push _)⟩ ?fresh ?fin
        case fresh => exact PyProof.Rows.SetOf_congr ((PyProof.Rows.setObjOf_fresh (knd := PySem.strKind prog w) led).setOf (Heap.get?_push_of_some _ hs) (by unfold scanBound; omega)) (fun _ => by simp [inL]) (by simp [nL, dcR])
        case fin =>
          rintro ⟨h2, g2, d2, t2, o2⟩ mv hS
          obtain rfl : g2 = s.gens := mv.gens
          obtain rfl : d2 = s.drawn := mv.drawn
          obtain rfl : o2 = s.os := mv.os
          refine wpAny_pure ?_
          show wpAny _ _ (ret Value.none) _ _ _
          refine wpAny_pure ⟨rfl, h2, t2, rfl, hS, fun b o hb e => ?_⟩
          refine mv.heap b o ?_ (Heap.get?_push_of_some _ (by rw [← hN]; exact Heap.get?_push_of_some _ e))
          simp only [List.mem_cons, List.not_mem_nil, or_false, not_or]
          exact ⟨Nat.ne_of_lt hb, by rw [sz]; exact Nat.ne_of_lt (Nat.lt_succ_of_lt hb)⟩
      · cases r2 with
        | error e => exact hr2
        | ok fl2 =>
          cases fl2 with
          | ret r =>
            obtain ⟨rfl, h2, tk, rfl, hS, kk⟩ := hr2
            repeat (any_goals (first | assumption | wp_step))
            exact h _ _ hS kk
          | _ => exact hr2.elim
    | _ => exact hr.elim
end
end DlSets
namespace L2
open PySem PySem.Spec PyProof.Rows
def tLenTx (K : PySem.W.Frag) (ta : TE) : TE := fun σ H Q => ta σ H fun x H1 => ∃ l, ∃ xs : List Str, x = .ref l ∧ SqL K H1 l (xs.map V.str) ∧ xs.length ≤ 1000 ∧ Q (.int (DlSets.dcR xs.reverse : Nat)) H1
section
variable {X : Cx}
theorem pe_lenTx {a : Expr} {ta : TE} {p p2 q pos : Pos} (hc : X.calm = true) (hg : Gl X "len") (hm : X.mg "len" = none) (hg2 : Gl X "set") (hm2 : X.mg "set" = none) (ha : PE X a ta) (na : starEach [a] X.env = (false, eval a X.env) :: starEach [] X.env) :
    PE X (.Call (.Name "len" p) [.Call (.Name "set" p2) [a] [] q] [] pos) (tLenTx X.K ta) := by
  refine ⟨fun pins s σ H Q I h => ?_⟩
  refine Call_ (ld_blt I hg hm boot_len (PyProof.Rows.callWith_builtin1 (PyProof.Rows.args_cons ?_ rfl) rfl rfl))
  refine Call_ (ld_blt I hg2 hm2 boot_set (PyProof.Rows.callWith_type1 (PyProof.Rows.args_cons (thn (ha.run pins s σ H _ I h) fun v s1 ⟨x, H1, I1, r1, q1⟩ => PyProof.Rows.args_nil ?_) na) na rfl))
  obtain ⟨l, xs, rfl, hq, h1, q1⟩ := q1
  cases r1
  obtain ⟨its, r, pl, hz⟩ := I1.list hq
  have hr := strsAre_of r
  have hlen : its.toArray.size = xs.length := by rw [List.size_toArray, ← r.length, List.length_map]
  refine DlSets.set_of_texts (I1.ok.hd hc) pl.isList (by simpa using hr) (by unfold scanBound; omega) fun h2 tk hS kk => ?_
  refine PyProof.Rows.args_nil ?_
  rw [hlen] at hS
  obtain ⟨o, es, ep, t, ho, hex, hd, _, _, _, hf, hn⟩ := hS
  have I2 : Inv X pins σ H1 { s1 with heap := h2, toks := tk } := I1.kept fun b o e => kk b o (Heap.lt_size e) e
  have hle := DlSets.dcR_le (xs.take xs.length).reverse
  have e0 : DlSets.nL xs xs.length = DlSets.dcR xs.reverse := by show DlSets.dcR (xs.take xs.length).reverse = _; rw [List.take_length]
  refine call_len_set ho hex hd hf (by rw [hn, e0]; simp at hle; omega) ⟨.int _, H1, I2.tok _, ⟨_, by rw [hn, e0]⟩, q1⟩
end
end L2

/-! DlJ: built-ins of lists. -/
namespace Dl
open PySem L2
theorem insI_perm (x : Int) : ∀ l : List Int, (insI x l).Perm (x :: l)
  | [] => .refl _
  | y :: r => by
    simp only [insI]
    split
    · exact .refl _
    · exact ((insI_perm x r).cons y).trans (.swap x y r)
theorem sortI_perm : ∀ l : List Int, (sortI l).Perm l
  | [] => .refl _
  | x :: r => (insI_perm x (sortI r)).trans ((sortI_perm r).cons x)
theorem insI_sorted (x : Int) : ∀ l : List Int, l.Pairwise (· ≤ ·) → (insI x l).Pairwise (· ≤ ·)
  | [], _ => by simp [insI]
  | y :: r, h => by
    simp only [insI]
    rw [List.pairwise_cons] at h
    split
    · rename_i c
      rw [List.pairwise_cons, List.pairwise_cons]
      refine ⟨fun z hz => ?_, h⟩
      rcases List.mem_cons.mp hz with rfl | hz
      · exact c
      · exact Int.le_trans c (h.1 z hz)
    · rename_i c
      rw [List.pairwise_cons]
      refine ⟨fun z hz => ?_, insI_sorted x r h.2⟩
      rcases List.mem_cons.mp ((insI_perm x r).mem_iff.mp hz) with rfl | hz
      · omega
      · exact h.1 z hz
theorem sortI_sorted : ∀ l : List Int, (sortI l).Pairwise (· ≤ ·)
  | [] => by simp [sortI]
  | x :: r => insI_sorted x _ (sortI_sorted r)
theorem sorted_uniq : ∀ {a b : List Int}, a.Perm b → a.Pairwise (· ≤ ·) → b.Pairwise (· ≤ ·) → a = b
  | [], b, p, _, _ => (List.Perm.nil_eq p)
  | x :: a, [], p, _, _ => by simpa using p.length_eq
  | x :: a, y :: b, p, h, k => by
    rw [List.pairwise_cons] at h k
    have h1 : x ≤ y := by
      rcases List.mem_cons.mp (p.mem_iff.mpr (List.mem_cons_self (a := y) (l := b))) with e | e
      · omega
      · exact h.1 y e
    have h2 : y ≤ x := by
      rcases List.mem_cons.mp (p.mem_iff.mp (List.mem_cons_self (a := x) (l := a))) with e | e
      · omega
      · exact k.1 x e
    have e : x = y := by omega
    subst e
    rw [sorted_uniq (List.Perm.cons_inv p) h.2 k.2]
theorem maxI_spec : ∀ {l : List Int} {m : Int}, maxI l = some m → m ∈ l ∧ ∀ y ∈ l, y ≤ m
  | x :: r, m, h => by
    simp only [maxI] at h
    cases e : maxI r with
    | none =>
      rw [e] at h; cases h
      cases r with
      | nil => simp
      | cons y r => simp only [maxI] at e; split at e <;> cases e
    | some y =>
      rw [e] at h
      simp only [Option.some.injEq] at h
      obtain ⟨a, b⟩ := maxI_spec e
      subst h
      split
      · rename_i c
        refine ⟨List.mem_cons_of_mem _ a, fun z hz => ?_⟩
        rcases List.mem_cons.mp hz with rfl | hz
        · omega
        · exact b z hz
      · rename_i c
        refine ⟨List.mem_cons_self, fun z hz => ?_⟩
        rcases List.mem_cons.mp hz with rfl | hz
        · omega
        · have := b z hz; omega
theorem minI_spec : ∀ {l : List Int} {m : Int}, minI l = some m → m ∈ l ∧ ∀ y ∈ l, m ≤ y
  | x :: r, m, h => by
    simp only [minI] at h
    cases e : minI r with
    | none =>
      rw [e] at h; cases h
      cases r with
      | nil => simp
      | cons y r => simp only [minI] at e; split at e <;> cases e
    | some y =>
      rw [e] at h
      simp only [Option.some.injEq] at h
      obtain ⟨a, b⟩ := minI_spec e
      subst h
      split
      · rename_i c
        refine ⟨List.mem_cons_of_mem _ a, fun z hz => ?_⟩
        rcases List.mem_cons.mp hz with rfl | hz
        · omega
        · exact b z hz
      · rename_i c
        refine ⟨List.mem_cons_self, fun z hz => ?_⟩
        rcases List.mem_cons.mp hz with rfl | hz
        · omega
        · have := b z hz; omega
section
variable {p : Px} {Wx : WX} {X : Cx} {T : Tbl} {call : CallF} {α : List Addr} {H : Hp}
theorem ints_rep : ∀ {ws : List W} {l : List Int} {vs : List V}, asInts ws = some l → RepVs p α H ws vs → vs = l.map V.int
  | [], l, vs, e, r => by simp only [asInts, Option.some.injEq] at e; subst e; exact r.nil'
  | w :: ws, l, vs, e, r => by
    obtain ⟨v, q, rfl, a, b⟩ := r.cons'
    cases w <;> simp only [asInts] at e <;> try cases e
    simp only [Option.map_eq_some_iff] at e
    obtain ⟨l', e, rfl⟩ := e
    rw [a.int', ints_rep e b]; rfl
theorem bls_rep : ∀ {ws : List W} {l : List Bool} {vs : List V}, asBls ws = some l → RepVs p α H ws vs → vs = l.map V.bl
  | [], l, vs, e, r => by simp only [asBls, Option.some.injEq] at e; subst e; exact r.nil'
  | w :: ws, l, vs, e, r => by
    obtain ⟨v, q, rfl, a, b⟩ := r.cons'
    cases w <;> simp only [asBls] at e <;> try cases e
    simp only [Option.map_eq_some_iff] at e
    obtain ⟨l', e, rfl⟩ := e
    rw [a.bl', bls_rep e b]; rfl
theorem rep_ints : ∀ {l : List Int}, RepVs p α H (l.map W.int) (l.map V.int)
  | [] => .nil
  | _ :: _ => .cons .int rep_ints
/-- the reading of what stands for a list's items -/
abbrev tI (p : Px) (Wx : WX) (T : Tbl) (call : CallF) (e : E) : TE := tG p Wx (RepI p) (its T call e)
def plainI : E → Bool
  | .comp _ _ _ _ _ | .lst _ => false
  | _ => true
theorem its_plain {e : E} (h : plainI e = true) (ρ : Env) (g : G) : its T call e ρ g = (ev T call e ρ g).bind fun x g1 => R.of (lstOf x g1) g1 := by
  cases e <;> first | (simp only [its]; done) | (simp [plainI] at h; done)
theorem lstOf_rep {g : G} {w : W} {v : V} {ws : List W} (S : Sim p α g H) (r : RepV p α H w v) (e : lstOf w g = some ws) : ∃ a vs, v = .ref a ∧ SqL p.K H a vs ∧ RepVs p α H ws vs := by
  cases w with
  | ref i =>
    obtain ⟨a, rfl, ea⟩ := r.ref'
    obtain ⟨vs, L, rs⟩ := S.lstOf e ea
    exact ⟨a, vs, rfl, L, rs⟩
  | fl us =>
    obtain ⟨a, vs, rfl, L, rs⟩ := r.fl'
    simp only [lstOf, Option.some.injEq] at e
    subst e
    exact ⟨a, vs, rfl, L.sq, rs⟩
  | _ => simp [lstOf] at e
theorem i_plain {e : Expr} {e' : E} (h : plainI e' = true) (he : PE X e (tV p Wx T call e')) : PE X e (tI p Wx T call e') :=
  PE.by fun σ H Q ⟨α, ρ, g, S, E, q⟩ => by
    refine ⟨_, he, α, ρ, g, S, E, ?_⟩
    rw [its_plain h] at q
    refine (post.bind (Rq := RepV p) q).imp fun x H1 _ ⟨α1, g1, w, K1, S1, r, q1⟩ => ?_
    obtain ⟨ws, e1, q2⟩ := post.of q1
    obtain ⟨a, vs, rfl, L, rs⟩ := lstOf_rep S1 r e1
    exact post.ok q2 S1 ⟨a, vs, rfl, L, rs⟩
theorem i_lst {es : List Expr} {es' : EL} {pos : Pos} (h : PA X es (tL p Wx T call es')) (hl : es.length ≤ lim) (hn : ∀ {ρ g ws g'}, evl T call es' ρ g = .ok ws g' → ws.length = es.length) : PE X (.List es pos) (tN p Wx (its T call (.lst es'))) :=
  PE.by fun σ H Q ⟨α, ρ, g, S, E, q⟩ => by
    refine ⟨_, pe_lst h, α, ρ, g, S, E, ?_⟩
    simp only [its] at q
    cases hr : evl T call es' ρ g with
    | err => rw [hr] at q; exact q
    | exc c g1 => rw [hr] at q; exact q
    | ok ws g1 =>
      rw [hr] at q
      have l := hn hr
      intro α1 H1 vs K1 S1 rs
      refine ⟨by rw [← rs.length, l]; exact sizeLine_lim hl, fun D hD => ?_⟩
      refine q α1 _ D vs (K1.trans (.junk hD)) (S1.junk hD) upd_same (fun hm => ?_) (K1.trans (.new hD)) (rs.mono (.junk hD))
      obtain ⟨u, hu⟩ := S1.trk hm
      rw [hD] at hu; cases hu
/-- a call of a built-in with one list -/
theorem e_bs {b : BS} {e a : Expr} {a' : E} (r : List V → Hp → VK → Prop) (hd : PE X e (tCB r (tCons (tI p Wx T call a') tNil)))
    (hr : ∀ α H g D vs ws σ Q, Sim p α g H → SqL p.K H D vs → RepVs p α H ws vs → post p Wx (RepV p) (b.run ws g) α H σ Q → r [.ref D] H Q) : PE X e (tV p Wx T call (.bs b a')) :=
  PE.by fun σ H Q ⟨α, ρ, g, S, E, q⟩ => by
    refine ⟨_, hd, α, ρ, g, S, E, ?_⟩
    simp only [ev] at q
    refine (post.bind (Rq := RepI p) q).imp fun x H1 _ ⟨α1, g1, ws, K1, S1, ⟨D, vs, ex, L, rs⟩, q1⟩ => ?_
    subst ex
    exact hr α1 H1 g1 D vs ws σ Q S1 L rs q1
theorem bs_any (hK : p.K = X.K) {g : G} {D : Addr} {vs : List V} {ws : List W} {σ : St} {Q : VK} (S : Sim p α g H) (L : SqL p.K H D vs) (rs : RepVs p α H ws vs) (q : post p Wx (RepV p) (BS.any.run ws g) α H σ Q) : rAny X.K [.ref D] H Q := by
  simp only [BS.run] at q
  obtain ⟨w, e, q2⟩ := post.of q
  simp only [Option.map_eq_some_iff] at e
  obtain ⟨l, e, rfl⟩ := e
  exact ⟨D, l, rfl, by rw [← bls_rep e rs, ← hK]; exact L, post.ok q2 S .bl⟩
theorem bs_all (hK : p.K = X.K) {g : G} {D : Addr} {vs : List V} {ws : List W} {σ : St} {Q : VK} (S : Sim p α g H) (L : SqL p.K H D vs) (rs : RepVs p α H ws vs) (q : post p Wx (RepV p) (BS.all.run ws g) α H σ Q) : rAll X.K [.ref D] H Q := by
  simp only [BS.run] at q
  obtain ⟨w, e, q2⟩ := post.of q
  simp only [Option.map_eq_some_iff] at e
  obtain ⟨l, e, rfl⟩ := e
  exact ⟨D, l, rfl, by rw [← bls_rep e rs, ← hK]; exact L, post.ok q2 S .bl⟩
theorem bs_sum (hK : p.K = X.K) {g : G} {D : Addr} {vs : List V} {ws : List W} {σ : St} {Q : VK} (S : Sim p α g H) (L : SqL p.K H D vs) (rs : RepVs p α H ws vs) (q : post p Wx (RepV p) (BS.sum.run ws g) α H σ Q) : rSum X.K [.ref D] H Q := by
  simp only [BS.run] at q
  obtain ⟨w, e, q2⟩ := post.of q
  simp only [Option.map_eq_some_iff] at e
  obtain ⟨l, e, rfl⟩ := e
  exact ⟨D, l, rfl, by rw [← ints_rep e rs, ← hK]; exact L, post.ok q2 S .int⟩
theorem bs_max (hK : p.K = X.K) {g : G} {D : Addr} {vs : List V} {ws : List W} {σ : St} {Q : VK} (S : Sim p α g H) (L : SqL p.K H D vs) (rs : RepVs p α H ws vs) (q : post p Wx (RepV p) (BS.max.run ws g) α H σ Q) : rMax X.K [.ref D] H Q := by
  simp only [BS.run] at q
  obtain ⟨w, e, q2⟩ := post.of q
  simp only [Option.map_eq_some_iff, Option.bind_eq_some_iff] at e
  obtain ⟨m, ⟨l, e, em⟩, rfl⟩ := e
  obtain ⟨h1, h2⟩ := maxI_spec em
  refine ⟨D, l, rfl, by rw [← ints_rep e rs, ← hK]; exact L, List.length_pos_of_mem h1, fun m' k1 k2 => ?_⟩
  have : m' = m := Int.le_antisymm (h2 m' k1) (k2 m h1)
  subst this
  exact post.ok q2 S .int
theorem bs_min (hK : p.K = X.K) {g : G} {D : Addr} {vs : List V} {ws : List W} {σ : St} {Q : VK} (S : Sim p α g H) (L : SqL p.K H D vs) (rs : RepVs p α H ws vs) (q : post p Wx (RepV p) (BS.min.run ws g) α H σ Q) : rMin X.K [.ref D] H Q := by
  simp only [BS.run] at q
  obtain ⟨w, e, q2⟩ := post.of q
  simp only [Option.map_eq_some_iff, Option.bind_eq_some_iff] at e
  obtain ⟨m, ⟨l, e, em⟩, rfl⟩ := e
  obtain ⟨h1, h2⟩ := minI_spec em
  refine ⟨D, l, rfl, by rw [← ints_rep e rs, ← hK]; exact L, List.length_pos_of_mem h1, fun m' k1 k2 => ?_⟩
  have : m' = m := Int.le_antisymm (k2 m h1) (h2 m' k1)
  subst this
  exact post.ok q2 S .int
theorem bs_sorted (hK : p.K = X.K) {g : G} {D : Addr} {vs : List V} {ws : List W} {σ : St} {Q : VK} (S : Sim p α g H) (L : SqL p.K H D vs) (rs : RepVs p α H ws vs) (q : post p Wx (RepV p) (BS.sorted.run ws g) α H σ Q) : rSorted X.K [.ref D] H Q := by
  simp only [BS.run] at q
  split at q
  · rename_i l e
    split at q
    · rename_i c
      refine ⟨D, l, rfl, by rw [← ints_rep e rs, ← hK]; exact L, c, fun ns' q1 pe so hq => ?_⟩
      have : ns' = sortI l := sorted_uniq (pe.trans (sortI_perm l).symm) so (sortI_sorted l)
      subst this
      exact post.newL q S rep_ints hq
    · exact q.elim
  · exact q.elim
theorem bs_tuple (hK : p.K = X.K) {g : G} {D : Addr} {vs : List V} {ws : List W} {σ : St} {Q : VK} (S : Sim p α g H) (L : SqL p.K H D vs) (rs : RepVs p α H ws vs) (q : post p Wx (RepV p) (BS.tuple.run ws g) α H σ Q) :
    ∃ q' ys, [V.ref D] = [.ref q'] ∧ ((SqL X.K H q' ys ∧ ∀ l, H l = none → Q (.ref l) (upd H l (.tup ys))) ∨ (SqT X.K H q' ys ∧ Q (.ref q') H)) :=
  ⟨D, vs, rfl, .inl ⟨hK ▸ L, fun l hl => post.newT q S rs hl⟩⟩
theorem bs_list (hK : p.K = X.K) {g : G} {D : Addr} {vs : List V} {ws : List W} {σ : St} {Q : VK} (S : Sim p α g H) (L : SqL p.K H D vs) (rs : RepVs p α H ws vs) (q : post p Wx (RepV p) (BS.list.run ws g) α H σ Q) :
    ∃ q' ys, [V.ref D] = [.ref q'] ∧ (SqL X.K H q' ys ∨ SqT X.K H q' ys) ∧ ∀ l, H l = none → Q (.ref l) (upd H l (.lst ys)) :=
  ⟨D, vs, rfl, .inl (hK ▸ L), fun l hl => post.newL q S rs hl⟩
theorem bs_len (hK : p.K = X.K) {g : G} {D : Addr} {vs : List V} {ws : List W} {σ : St} {Q : VK} (S : Sim p α g H) (L : SqL p.K H D vs) (rs : RepVs p α H ws vs) (q : post p Wx (RepV p) (BS.len.run ws g) α H σ Q) :
    ∃ x, [V.ref D] = [x] ∧ ((∃ n, LenV X.K x H n ∧ Q (.int n) H) ∨ ∃ a kvs, x = .ref a ∧ Rd H a (.dK kvs) ∧ Q (.int kvs.length) H) :=
  ⟨.ref D, rfl, .inl ⟨ws.length, .inl ⟨vs, hK ▸ L, rs.length⟩, post.ok q S .int⟩⟩
/-- tuple(x), list(x) of a value -/
theorem e_bt_tuple {e a : Expr} {a' : E} (hK : p.K = X.K) (hd : PE X e (tCB (fun xs H Q => ∃ q ys, xs = [V.ref q] ∧ ((SqL X.K H q ys ∧ ∀ l, H l = none → Q (.ref l) (upd H l (.tup ys))) ∨ (SqT X.K H q ys ∧ Q (.ref q) H))) (tCons (tV p Wx T call a') tNil))) :
    PE X e (tV p Wx T call (.bt .tuple a')) :=
  PE.by fun σ H Q ⟨α, ρ, g, S, E, q⟩ => by
    refine ⟨_, hd, α, ρ, g, S, E, ?_⟩
    simp only [ev] at q
    refine (post.bind (Rq := RepV p) q).imp fun x H1 _ ⟨α1, g1, w, K1, S1, r, q1⟩ => ?_
    cases h : seqOf w g1 with
    | none => rw [h] at q1; exact q1.elim
    | some ws =>
      rw [h] at q1
      simp only [R.of, R.bind] at q1
      cases w with
      | tup us =>
        simp only [seqOf, Option.some.injEq] at h
        subst h
        have r0 := r
        obtain ⟨b, vs, rfl, TT, rs⟩ := r.tup'
        exact ⟨b, vs, rfl, .inr ⟨hK ▸ TT, post.ok q1 S1 r0⟩⟩
      | ref i =>
        obtain ⟨b, vs, rfl, L, rs⟩ := lstOf_rep S1 r (show lstOf (.ref i) g1 = some ws from h)
        exact ⟨b, vs, rfl, .inl ⟨hK ▸ L, fun l hl => post.newT q1 S1 rs hl⟩⟩
      | fl us =>
        obtain ⟨b, vs, rfl, L, rs⟩ := lstOf_rep S1 r (show lstOf (.fl us) g1 = some ws from h)
        exact ⟨b, vs, rfl, .inl ⟨hK ▸ L, fun l hl => post.newT q1 S1 rs hl⟩⟩
      | _ => simp [seqOf] at h
theorem e_bt_list {e a : Expr} {a' : E} (hK : p.K = X.K) (hd : PE X e (tCB (fun xs H Q => ∃ q ys, xs = [V.ref q] ∧ (SqL X.K H q ys ∨ SqT X.K H q ys) ∧ ∀ l, H l = none → Q (.ref l) (upd H l (.lst ys))) (tCons (tV p Wx T call a') tNil))) :
    PE X e (tV p Wx T call (.bt .list a')) :=
  PE.by fun σ H Q ⟨α, ρ, g, S, E, q⟩ => by
    refine ⟨_, hd, α, ρ, g, S, E, ?_⟩
    simp only [ev] at q
    refine (post.bind (Rq := RepV p) q).imp fun x H1 _ ⟨α1, g1, w, K1, S1, r, q1⟩ => ?_
    cases h : seqOf w g1 with
    | none => rw [h] at q1; exact q1.elim
    | some ws =>
      rw [h] at q1
      simp only [R.of, R.bind] at q1
      cases w with
      | tup us =>
        simp only [seqOf, Option.some.injEq] at h
        subst h
        obtain ⟨b, vs, rfl, TT, rs⟩ := r.tup'
        exact ⟨b, vs, rfl, .inr (hK ▸ TT), fun l hl => post.newL q1 S1 rs hl⟩
      | ref i =>
        obtain ⟨b, vs, rfl, L, rs⟩ := lstOf_rep S1 r (show lstOf (.ref i) g1 = some ws from h)
        exact ⟨b, vs, rfl, .inl (hK ▸ L), fun l hl => post.newL q1 S1 rs hl⟩
      | fl us =>
        obtain ⟨b, vs, rfl, L, rs⟩ := lstOf_rep S1 r (show lstOf (.fl us) g1 = some ws from h)
        exact ⟨b, vs, rfl, .inl (hK ▸ L), fun l hl => post.newL q1 S1 rs hl⟩
      | _ => simp [seqOf] at h
/-! ### len(set(texts)) -/
theorem asStrs_rep : ∀ {ws : List W} {vs : List V} {l : List (List Nat)} {α : List Addr} {H : Hp}, asStrs ws = some l → RepVs p α H ws vs → vs = (l.map strV).map V.str
  | [], _, l, _, _, e, r => by
    simp only [asStrs, Option.some.injEq] at e
    subst e
    rw [r.nil']; rfl
  | w :: ws, _, l, _, _, e, r => by
    obtain ⟨v, q, rfl, a, b⟩ := r.cons'
    cases w <;> simp only [asStrs] at e <;> try (cases e; done)
    obtain ⟨l', e', rfl⟩ := Option.map_eq_some_iff.mp e
    rw [asStrs_rep e' b, a.str']
    rfl
theorem dcN_strV : ∀ l : List (List Nat), DlSets.dcR (l.map strV) = dcN l
  | [] => rfl
  | x :: r => by
    simp only [List.map_cons, DlSets.dcR, dcN, dcN_strV r, List.any_map]
    have : ((fun z => z == strV x) ∘ strV) = fun z => z == x := by
      funext z
      exact strV_beq z x
    rw [this]
theorem e_lset {e : Expr} {a' : E} (hK : p.K = X.K) (hd : PE X e (tLenTx X.K (tV p Wx T call a'))) : PE X e (tV p Wx T call (.lset a')) :=
  PE.by fun σ H Q ⟨α, ρ, g, S, E, q⟩ => by
    refine ⟨_, hd, α, ρ, g, S, E, ?_⟩
    simp only [ev] at q
    refine (post.bind (Rq := RepV p) q).imp fun x H1 _ ⟨α1, g1, w, K1, S1, r, q1⟩ => ?_
    split at q1
    · rename_i i
      obtain ⟨b, rfl, eb⟩ := r.ref'
      split at q1
      · rename_i ws f
        obtain ⟨vs, h1, rs⟩ := S1.lst f eb
        obtain ⟨w', e1, q2⟩ := post.of q1
        obtain ⟨l, e2, e3⟩ := Option.bind_eq_some_iff.mp e1
        split at e3
        · rename_i hl
          cases e3
          have ev := asStrs_rep e2 rs
          refine ⟨b, l.map strV, rfl, .of (ev ▸ h1), by simpa using hl, ?_⟩
          rw [← List.map_reverse, dcN_strV]
          exact post.ok q2 S1 .int
        · cases e3
      · exact q1.elim
    · exact q1.elim
end
end Dl

/-! DlK: methods of lists and dicts; statements. -/
namespace Dl
open PySem L2
section
variable {p : Px} {Wx : WX} {X : Cx} {T : Tbl} {call : CallF} {α : List Addr} {H : Hp}
/-! ### methods -/
theorem m_list {o : Expr} {o' : E} {e : Expr} {m : M} {es' : EL} {t : TA} (r : V → List V → Hp → VK → Prop) (hd : PE X e (tBM X.K "list" r (tV p Wx T call o') (tL p Wx T call es'))) (hK : p.K = X.K)
    (hr : ∀ α H g i a ws vs σ Q, Sim p α g H → α[i]? = some a → RepVs p α H ws vs → post p Wx (RepV p) (m.runL i ws g) α H σ Q → r (.ref a) vs H Q) {σ : St} {Q : VK} {ρ : Env} {g : G} (S : Sim p α g H) (E : SimSt p α H ρ σ)
    (q : post p Wx (RepV p) (ev T call (.mth m o' es') ρ g) α H σ Q) (hm : m ≠ .get) : ∃ t', PE X e t' ∧ t' σ H Q := by
  refine ⟨_, hd, α, ρ, g, S, E, ?_⟩
  simp only [ev] at q
  cases ho : ev T call o' ρ g with
  | err => rw [ho] at q; exact q
  | exc c g1 => rw [ho] at q; exact q
  | ok w g1 =>
    rw [ho] at q
    intro α1 H1 x K1 S1 rx
    simp only [R.bind] at q
    cases w with
    | ref i =>
      obtain ⟨a, rfl, ea⟩ := rx.ref'
      simp only [if_neg hm] at q
      split at q
      · rename_i ws hi
        obtain ⟨vs, h1, rs⟩ := S1.lst hi ea
        refine ⟨.inl ⟨rfl, vs, .of h1⟩, α1, ρ, g1, S1, E.mono K1, ?_⟩
        exact (post.bind (Rq := RepVs p) (post.mono q K1)).imp fun xs H2 _ ⟨α2, g2, us, K2, S2, r2, q2⟩ => hr α2 H2 g2 i a us xs σ Q S2 (K2.pre.get ea) r2 q2
      · exact q.elim
      · exact q.elim
    | _ => exact q.elim
theorem m_list0 {o : Expr} {o' : E} {e : Expr} {m : M} (r : V → List V → Hp → VK → Prop) (hd : PE X e (tBM0 X.K "list" r (tV p Wx T call o'))) (hK : p.K = X.K)
    (hr : ∀ α H g i a ws vs σ Q, Sim p α g H → α[i]? = some a → RepVs p α H ws vs → post p Wx (RepV p) (m.runL i ws g) α H σ Q → r (.ref a) vs H Q) (hm : m ≠ .get) : PE X e (tV p Wx T call (.mth m o' .nil)) :=
  PE.by fun σ H Q ⟨α, ρ, g, S, E, q⟩ => by
  refine ⟨_, hd, α, ρ, g, S, E, ?_⟩
  simp only [ev] at q
  cases ho : ev T call o' ρ g with
  | err => rw [ho] at q; exact q
  | exc c g1 => rw [ho] at q; exact q
  | ok w g1 =>
    rw [ho] at q
    intro α1 H1 x K1 S1 rx
    simp only [R.bind] at q
    cases w with
    | ref i =>
      obtain ⟨a, rfl, ea⟩ := rx.ref'
      simp only [if_neg hm, evl] at q
      split at q
      · rename_i ws hi
        obtain ⟨vs, h1, rs⟩ := S1.lst hi ea
        exact ⟨.inl ⟨rfl, vs, .of h1⟩, hr α1 H1 g1 i a [] [] σ Q S1 ea .nil (post.mono q K1)⟩
      · exact q.elim
      · exact q.elim
    | _ => exact q.elim
theorem wr_list {g : G} {i : Nat} {a : Addr} {ws us : List W} {vs xs : List V} {w : W} {v : V} {σ : St} {Q : VK} (S : Sim p α g H) (e : g[i]? = some (.lst ws)) (ea : α[i]? = some a) (hv : H a = some (.lst vs)) (r : RepVs p α H us xs) (rv : RepV p α H w v)
    (q : post p Wx (RepV p) (.ok w (g.set i (.lst us))) α H σ Q) : Q v (upd H a (.lst xs)) := by
  have mu : Mut (H a) := by rw [hv]; exact trivial
  have k : Kp α H α (upd H a (.lst xs)) := .write mu (List.mem_of_getElem? ea)
  exact q α _ v k (S.write e ea ⟨xs, upd_same, r.mono k⟩) (rv.mono k)
theorem ml_append {g : G} {i : Nat} {a : Addr} {ws : List W} {vs : List V} {σ : St} {Q : VK} (S : Sim p α g H) (ea : α[i]? = some a) (r : RepVs p α H ws vs) (q : post p Wx (RepV p) (M.append.runL i ws g) α H σ Q) : rAppend (.ref a) vs H Q := by
  rcases ws with _ | ⟨y, _ | ⟨z, ws⟩⟩ <;> simp only [M.runL] at q <;> split at q <;> first | exact q.elim | skip
  rename_i xs e
  split at q
  · rename_i c
    obtain ⟨v, q1, rfl, r1, r2⟩ := r.cons'
    have := r2.nil'
    subst this
    obtain ⟨us, h1, rs⟩ := S.lst e ea
    exact ⟨a, us, v, rfl, rfl, h1, by rw [← rs.length]; exact Nat.lt_of_lt_of_le c lim_line, wr_list S e ea h1 (rs.append (.cons r1 .nil)) .non q⟩
  · exact q.elim
theorem ml_extend {g : G} {i : Nat} {a : Addr} {ws : List W} {vs : List V} {σ : St} {Q : VK} (S : Sim p α g H) (ea : α[i]? = some a) (r : RepVs p α H ws vs) (q : post p Wx (RepV p) (M.extend.runL i ws g) α H σ Q) : rExtend (.ref a) vs H Q := by
  rcases ws with _ | ⟨y, _ | ⟨z, ws⟩⟩
  · simp only [M.runL] at q
    split at q <;> exact q.elim
  · cases y <;> simp only [M.runL] at q <;> split at q <;> first | exact q.elim | skip
    rename_i k xs e
    split at q
    · rename_i ys e2
      split at q
      · rename_i c
        obtain ⟨v, q1, rfl, r1, r2⟩ := r.cons'
        have := r2.nil'
        subst this
        obtain ⟨b, rfl, eb⟩ := r1.ref'
        obtain ⟨us, h1, rs⟩ := S.lst e ea
        obtain ⟨zs, h2, rz⟩ := S.lst e2 eb
        exact ⟨a, b, us, zs, rfl, rfl, h1, h2, by rw [← rs.length, ← rz.length]; exact sizeLine_lim c, wr_list S e ea h1 (rs.append rz) .non q⟩
      · exact q.elim
    · exact q.elim
  · cases y <;> simp only [M.runL] at q <;> split at q <;> exact q.elim
theorem ml_pop0 {g : G} {i : Nat} {a : Addr} {ws : List W} {vs : List V} {σ : St} {Q : VK} (S : Sim p α g H) (ea : α[i]? = some a) (r : RepVs p α H ws vs) (q : post p Wx (RepV p) (M.pop0.runL i ws g) α H σ Q) : rPop (.ref a) vs H Q := by
  rcases ws with _ | ⟨y, ws⟩ <;> simp only [M.runL] at q <;> split at q <;> first | exact q.elim | skip
  rename_i xs e
  split at q
  · rename_i y ey
    have := r.nil'
    subst this
    obtain ⟨us, h1, rs⟩ := S.lst e ea
    obtain ⟨v, e1, rv⟩ := rs.get ey
    exact ⟨a, us, v, rfl, rfl, h1, by rw [← rs.length]; exact e1, wr_list S e ea h1 rs.dropLast rv q⟩
  · exact q.elim
/-! ### statements -/
def postS (p : Px) (Wx : WX) (r : RS) (α : List Addr) (H : Hp) (D : Ends) : Prop := match r with
  | .go f ρ' g' => match f with
    | .nx => ∀ α' H' σ', Kp α H α' H' → Sim p α' g' H' → SimSt p α' H' ρ' σ' → D.nx σ' H'
    | .brk => ∀ α' H' σ', Kp α H α' H' → Sim p α' g' H' → SimSt p α' H' ρ' σ' → D.bk σ' H'
    | .cnt => ∀ α' H' σ', Kp α H α' H' → Sim p α' g' H' → SimSt p α' H' ρ' σ' → D.ct σ' H'
    | .ret w => ∀ α' H' v, Kp α H α' H' → Sim p α' g' H' → RepV p α' H' w v → D.rt v H'
  | .exc c ρ' g' => ∀ α' H' σ', Kp α H α' H' → Sim p α' g' H' → SimSt p α' H' ρ' σ' → Wx (.ref (p.xa c)) none σ' H'
  | .err => False
def tS (p : Px) (Wx : WX) (f : Env → G → RS) : TS := fun D σ H => ∃ α ρ g, Sim p α g H ∧ SimSt p α H ρ σ ∧ postS p Wx (f ρ g) α H D
theorem postS.mono {r : RS} {α α' : List Addr} {H H' : Hp} {D : Ends} (h : postS p Wx r α H D) (k : Kp α H α' H') : postS p Wx r α' H' D := by
  cases r with
  | go f ρ g => cases f <;> exact fun α2 H2 x b c d => h α2 H2 x (k.trans b) c d
  | exc c ρ g => exact fun α2 H2 x b c d => h α2 H2 x (k.trans b) c d
  | err => exact h
/-- an expression in a statement -/
theorem ofE {β γ : Type} {Rp : List Addr → Hp → β → γ → Prop} {r : R β} {ρ : Env} {k : β → G → RS} {σ : St} {D : Ends} (h : postS p Wx (RS.of r ρ k) α H D) (E : SimSt p α H ρ σ) :
    post p Wx Rp r α H σ (fun x H1 => ∃ α1 g1 w, Kp α H α1 H1 ∧ Sim p α1 g1 H1 ∧ SimSt p α1 H1 ρ σ ∧ Rp α1 H1 w x ∧ postS p Wx (k w g1) α1 H1 D) := by
  cases r with
  | ok w g => exact fun α1 H1 v b c d => ⟨α1, g, w, b, c, E.mono b, d, postS.mono h b⟩
  | exc c g => exact fun α1 H1 b s => h α1 H1 σ b s (E.mono b)
  | err => exact h
abbrev tX (p : Px) (Wx : WX) (T : Tbl) (call : CallF) (s : S) : TS := tS p Wx (ex T call s)
abbrev tXs (p : Px) (Wx : WX) (T : Tbl) (call : CallF) (s : SL) : TS := tS p Wx (exs T call s)
theorem x_nil : PSs X [] (tXs p Wx T call .nil) :=
  ⟨fun pins s σ H D I ⟨α, ρ, g, S, E, q⟩ => pss_nil.run pins s σ H D I (by simp only [exs] at q; exact q α H σ (.refl _ _) S E)⟩
theorem x_cons {st : Stmt} {rest : List Stmt} {s : Dl.S} {r : SL} (h1 : PS X st (tX p Wx T call s)) (h2 : PSs X rest (tXs p Wx T call r)) : PSs X (st :: rest) (tXs p Wx T call (.cons s r)) :=
  ⟨fun pins sh σ H D I ⟨α, ρ, g, S, E, q⟩ => by
    refine (pss_cons h1 h2).run pins sh σ H D I ⟨α, ρ, g, S, E, ?_⟩
    simp only [exs] at q
    cases hr : ex T call s ρ g with
    | err => rw [hr] at q; exact q
    | exc c ρ1 g1 => rw [hr] at q; exact q
    | go f ρ1 g1 =>
      rw [hr] at q
      cases f with
      | nx => exact fun α1 H1 σ1 k1 S1 E1 => ⟨α1, ρ1, g1, S1, E1, postS.mono q k1⟩
      | brk => exact q
      | cnt => exact q
      | ret w => exact q⟩
theorem PSs.by {e : List Stmt} {t : TS} (h : ∀ D σ H, t D σ H → ∃ t', PSs X e t' ∧ t' D σ H) : PSs X e t :=
  ⟨fun pins s σ H D I q => let ⟨_, d, q'⟩ := h D σ H q; d.run pins s σ H D I q'⟩
/-- x = e -/
theorem x_set {st : Stmt} {i : Nat} {e' : E} {te : TE} (hd : PS X st (tAsg (tV p Wx T call e') (gName i))) : PS X st (tX p Wx T call (.asg (.nm i) e')) :=
  PS.by fun D σ H ⟨α, ρ, g, S, E, q⟩ => by
    refine ⟨_, hd, α, ρ, g, S, E, ?_⟩
    simp only [ex] at q
    refine (ofE (Rp := RepV p) q E).imp fun x H1 _ ⟨α1, g1, w, k1, S1, E1, r, q1⟩ => ?_
    simp only [Tg.putS] at q1
    exact q1 α1 H1 _ (.refl _ _) S1 (E1.set i r)
/-- a, b = e -/
theorem x_tup {st : Stmt} {ts : List Nat} {e' : E} (hK : p.K = X.K) (h1 : PS X st (tAsg (tV p Wx T call e') (gTup X.K ts.length (gAll ts)))) (h2 : PS X st (tAsg (tV p Wx T call e') (gLst X.K ts.length (gAll ts)))) : PS X st (tX p Wx T call (.asg (.tp ts) e')) :=
  PS.by fun D σ H ⟨α, ρ, g, S, E, q⟩ => by
    simp only [ex] at q
    cases hr : ev T call e' ρ g with
    | err => rw [hr] at q; exact q.elim
    | exc c g1 =>
      refine ⟨_, h1, α, ρ, g, S, E, ?_⟩
      rw [hr] at q ⊢
      exact fun α1 H1 b s => q α1 H1 σ b s (E.mono b)
    | ok w g1 =>
      rw [hr] at q
      simp only [RS.of, Tg.putS] at q
      cases w with
      | tup ws =>
        refine ⟨_, h1, α, ρ, g, S, E, ?_⟩
        rw [hr]
        intro α1 H1 v k1 S1 r
        obtain ⟨a, vs, rfl, TT, rs⟩ := r.tup'
        cases hp : setAll ts ws ρ with
        | none => simp only [hp] at q; exact q.elim
        | some ρ' =>
          simp only [hp] at q
          exact ⟨a, vs, rfl, hK ▸ TT, by rw [← rs.length, setAll_len hp], gAll_go hp rs (E.mono k1) fun σ' s _ => q α1 H1 σ' k1 S1 s⟩
      | ref i =>
        refine ⟨_, h2, α, ρ, g, S, E, ?_⟩
        rw [hr]
        intro α1 H1 v k1 S1 r
        cases hl : lstOf (.ref i) g1 with
        | none => simp only [hl] at q; exact q.elim
        | some ws =>
          obtain ⟨a, vs, rfl, L, rs⟩ := lstOf_rep S1 r hl
          cases hp : setAll ts ws ρ with
          | none => simp only [hl, hp] at q; exact q.elim
          | some ρ' =>
            simp only [hl, hp] at q
            exact ⟨a, vs, rfl, hK ▸ L, by rw [← rs.length, setAll_len hp], gAll_go hp rs (E.mono k1) fun σ' s _ => q α1 H1 σ' k1 S1 s⟩
      | fl us =>
        refine ⟨_, h2, α, ρ, g, S, E, ?_⟩
        rw [hr]
        intro α1 H1 v k1 S1 r
        obtain ⟨a, vs, rfl, L, rs⟩ := r.fl'
        cases hp : setAll ts us ρ with
        | none => simp only [lstOf, hp] at q; exact q.elim
        | some ρ' =>
          simp only [lstOf, hp] at q
          exact ⟨a, vs, rfl, hK ▸ L.sq, by rw [← rs.length, setAll_len hp], gAll_go hp rs (E.mono k1) fun σ' s _ => q α1 H1 σ' k1 S1 s⟩
      | _ => simp only [lstOf] at q; exact q.elim
/-- o[i] = e -/
theorem x_put {st : Stmt} {a' b' e' : E} (hK : p.K = X.K) (h1 : PS X st (tAsg (tV p Wx T call e') (gSub (tV p Wx T call a') (tV p Wx T call b') rSetL))) (h2 : PS X st (sDPut (tV p Wx T call a') (tV p Wx T call b') (tV p Wx T call e'))) : PS X st (tX p Wx T call (.put a' b' e')) :=
  PS.by fun D σ H ⟨α, ρ, g, S, E, q⟩ => by
    simp only [ex] at q
    -- is it a list or a dict in the end?
    by_cases isd : ∃ w g1 i g2 y g3 kvs, ev T call e' ρ g = .ok w g1 ∧ ev T call a' ρ g1 = .ok (.ref i) g2 ∧ ev T call b' ρ g2 = .ok y g3 ∧ g3[i]? = some (.dct kvs)
    · refine ⟨_, h2, α, ρ, g, S, E, ?_⟩
      obtain ⟨w, g1, i, g2, y, g3, kvs, e1, e2, e3, e4⟩ := isd
      simp only [RS.of, e1, e2, e3, e4] at q ⊢
      intro α1 H1 v k1 S1 r1
      refine ⟨α1, ρ, g1, S1, E.mono k1, ?_⟩
      rw [e2]
      intro α2 H2 x k2 S2 r2
      refine ⟨α2, ρ, g2, S2, (E.mono k1).mono k2, ?_⟩
      rw [e3]
      intro α3 H3 yv k3 S3 r3
      obtain ⟨a, rfl, ea⟩ := r2.ref'
      have ea := k3.pre.get ea
      obtain ⟨kvs', hd, rr⟩ := S3.dict e4 ea
      replace q := postS.mono q ((k1.trans k2).trans k3)
      split at q
      · rename_i c
        obtain ⟨κ, hκ⟩ := fits_key c.1
        have hy := keyK_rep hκ r3
        subst hy
        have mu : Mut (H3 a) := by rw [hd]; exact trivial
        have rw1 := (r1.mono k2).mono k3
        have k : Kp α3 H3 α3 (upd H3 a (.dK (putK kvs' κ v))) := .write mu (List.mem_of_getElem? ea)
        refine ⟨a, _, rfl, .k hd (by rw [← rr.length]; exact Nat.lt_of_lt_of_le c.2 lim_line), ?_⟩
        exact q α3 _ σ k (S3.write e4 ea ⟨_, upd_same, (RepKV.put hκ rw1 rr).mono (.refl _) k.kp⟩) ((((E.mono k1).mono k2).mono k3).mono k)
      · exact q.elim
    · refine ⟨_, h1, α, ρ, g, S, E, ?_⟩
      cases e1 : ev T call e' ρ g with
      | err => rw [e1] at q; exact q.elim
      | exc c g1 => rw [e1] at q; exact fun α1 H1 b s => q α1 H1 σ b s (E.mono b)
      | ok w g1 =>
        simp only [RS.of, e1] at q
        intro α1 H1 v k1 S1 r1
        refine ⟨α1, ρ, g1, S1, E.mono k1, ?_⟩
        cases e2 : ev T call a' ρ g1 with
        | err => rw [e2] at q; exact q.elim
        | exc c g2 => rw [e2] at q; exact fun α2 H2 b s => q α2 H2 σ (k1.trans b) s ((E.mono k1).mono b)
        | ok x g2 =>
          simp only [e2] at q
          intro α2 H2 xv k2 S2 r2
          refine ⟨α2, ρ, g2, S2, (E.mono k1).mono k2, ?_⟩
          cases e3 : ev T call b' ρ g2 with
          | err => rw [e3] at q; exact q.elim
          | exc c g3 => rw [e3] at q; exact fun α3 H3 b s => q α3 H3 σ ((k1.trans k2).trans b) s (((E.mono k1).mono k2).mono b)
          | ok y g3 =>
            simp only [e3] at q
            intro α3 H3 yv k3 S3 r3
            replace q := postS.mono q ((k1.trans k2).trans k3)
            cases x with
            | ref i =>
              obtain ⟨a, rfl, ea⟩ := r2.ref'
              have ea := k3.pre.get ea
              simp only at q
              split at q
              · rename_i ws n e4
                split at q
                · rename_i j ej
                  obtain ⟨vs, hl, rs⟩ := S3.lst e4 ea
                  have mu : Mut (H3 a) := by rw [hl]; exact trivial
                  have rw1 := (r1.mono k2).mono k3
                  have k : Kp α3 H3 α3 (upd H3 a (.lst (vs.set j v))) := .write mu (List.mem_of_getElem? ea)
                  refine ⟨a, vs, n, j, rfl, r3.int', hl, by rw [← rs.length]; exact ej, ?_⟩
                  exact q α3 _ σ k (S3.write e4 ea ⟨_, upd_same, (RepVs.set rw1 j rs).mono k⟩) ((((E.mono k1).mono k2).mono k3).mono k)
                · exact q.elim
              · rename_i e4
                exact (isd ⟨w, g1, i, g2, _, g3, _, e1, e2, e3, e4⟩).elim
              · exact q.elim
            | _ => exact q.elim
theorem putL_go {a b : E} {w : W} {ρ : Env} {g : G} {k : G → RS} {α : List Addr} {H : Hp} {σ : St} {v : V} {D : Ends} {Q : St → Hp → Prop} (S : Sim p α g H) (E : SimSt p α H ρ σ) (r : RepV p α H w v) (q : postS p Wx (putL T call a b w ρ g k) α H D)
    (kk : ∀ α2 g2 H', Kp α H α2 H' → Sim p α2 g2 H' → SimSt p α2 H' ρ σ → postS p Wx (k g2) α2 H' D → Q σ H') : gSub (tV p Wx T call a) (tV p Wx T call b) rSetL v σ H Q := by
  refine ⟨α, ρ, g, S, E, ?_⟩
  unfold putL at q
  refine (ofE (Rp := RepV p) q E).imp fun o H1 _ ⟨α1, g1, x, k1, S1, E1, r1, q1⟩ => ⟨α1, ρ, g1, S1, E1, ?_⟩
  refine (ofE (Rp := RepV p) q1 E1).imp fun i H2 _ ⟨α2, g2, y, k2, S2, E2, r2, q2⟩ => ?_
  split at q2
  · rename_i p0 i0
    split at q2
    · rename_i ws e
      split at q2
      · rename_i j ej
        obtain ⟨a0, rfl, ea⟩ := r1.ref'
        have ea := k2.pre.get ea
        obtain ⟨vs, hl, rs⟩ := S2.lst e ea
        have mu : Mut (H2 a0) := by rw [hl]; exact trivial
        have rw1 := (r.mono k1).mono k2
        have kw : Kp α2 H2 α2 (upd H2 a0 (.lst (vs.set j v))) := .write mu (List.mem_of_getElem? ea)
        exact ⟨a0, vs, _, j, rfl, r2.int', hl, by rw [← rs.length]; exact ej, kk α2 _ _ ((k1.trans k2).trans kw) (S2.write (o' := .lst (ws.set j w)) e ea ⟨_, upd_same, (RepVs.set rw1 j rs).mono kw⟩) (E2.mono kw) (postS.mono q2 kw)⟩
      · exact q2.elim
    · exact q2.elim
  · exact q2.elim
/-- a[b], c[d] = (x, y) -/
theorem x_swap {st : Stmt} {a b c d x y : E} (h1 : PS X st (tAsg (tTup (tL p Wx T call (.cons x (.cons y .nil)))) (gTup X.K 2 (gCons (gSub (tV p Wx T call a) (tV p Wx T call b) rSetL) (gCons (gSub (tV p Wx T call c) (tV p Wx T call d) rSetL) gNil))))) : PS X st (tX p Wx T call (.swap a b c d x y)) :=
  PS.by fun D σ H ⟨α, ρ, g, S, E, q⟩ => by
    refine ⟨_, h1, α, ρ, g, S, E, ?_⟩
    simp only [ex] at q
    refine (ofE (Rp := RepVs p) q E).imp fun xs H1 _ ⟨α1, g1, ws, k1, S1, E1, rs, q1⟩ => ?_
    rcases ws with _ | ⟨w1, _ | ⟨w2, _ | ⟨w3, ws⟩⟩⟩
    · exact q1.elim
    · exact q1.elim
    · obtain ⟨v1, q', rfl, r1, rs⟩ := rs.cons'
      obtain ⟨v2, q'', rfl, r2, rs⟩ := rs.cons'
      have := rs.nil'
      subst this
      refine ⟨sizeLine_lim (show 2 ≤ lim by decide), fun t ht => ?_⟩
      have kj : Kp α1 H1 α1 (upd H1 t (.tup [v1, v2])) := .junk ht
      refine ⟨t, [v1, v2], rfl, .inl (.inl upd_same), rfl, v1, [v2], rfl, ?_⟩
      refine putL_go (S1.junk ht) (E1.mono kj) (r1.mono kj) (postS.mono q1 kj) fun α2 g2 H2 k2 S2 E2 q2 => ⟨v2, [], rfl, ?_⟩
      exact putL_go S2 E2 ((r2.mono kj).mono k2) q2 fun α3 g3 H3 k3 S3 E3 q3 => ⟨rfl, q3 α3 H3 σ (.refl _ _) S3 E3⟩
    · exact q1.elim
/-- o.f = e -/
theorem RepFs.put {f : Nm} {w : W} {v : V} (rw_ : RepV p α H w v) : ∀ {fs : List (Nm × W)} {fs' : List (Str × V)}, RepFs p α H fs fs' → RepFs p α H (putFW f w fs) (putF (nmS f) v fs')
  | [], _, h => by
    have : _ = [] := h
    subst this
    exact ⟨v, [], rfl, rw_, rfl⟩
  | (a, w') :: r, _, ⟨v', q, e, rv, rr⟩ => by
    subst e
    by_cases ha : a = f
    · subst ha
      simp only [putFW, putF, if_true]
      exact ⟨v, q, rfl, rw_, rr⟩
    · have hb : ¬ nmS a = nmS f := fun e => ha (by
        have := congrArg (fun z : Str => z.cps.toList) e
        simpa using this)
      simp only [putFW, putF, if_neg ha, if_neg hb]
      exact ⟨v', _, rfl, rv, RepFs.put rw_ rr⟩
theorem RepFs.length : ∀ {fs : List (Nm × W)} {fs' : List (Str × V)}, RepFs p α H fs fs' → fs.length = fs'.length
  | [], _, h => by
    have : _ = [] := h
    subst this; rfl
  | (a, w') :: r, _, ⟨v', q, e, rv, rr⟩ => by subst e; simp [RepFs.length rr]
theorem x_setf {st : Stmt} {o' e' : E} {f : Nm} (hK : p.K = X.K) (hf : FldOk p f) (h1 : PS X st (sFld X.K (tV p Wx T call o') (tV p Wx T call e') (nmS f))) : PS X st (tX p Wx T call (.setf o' f e')) :=
  PS.by fun D σ H ⟨α, ρ, g, S, E, q⟩ => by
    refine ⟨_, h1, α, ρ, g, S, E, ?_⟩
    simp only [ex] at q
    refine (ofE (Rp := RepV p) q E).imp fun v H1 _ ⟨α1, g1, w, k1, S1, E1, r1, q1⟩ => ⟨α1, ρ, g1, S1, E1, ?_⟩
    refine (ofE (Rp := RepV p) q1 E1).imp fun x H2 _ ⟨α2, g2, u, k2, S2, E2, r2, q2⟩ => ?_
    split at q2
    · rename_i i
      obtain ⟨a, rfl, ea⟩ := r2.ref'
      split at q2
      · rename_i c fs e4
        split at q2
        · rename_i hl
          obtain ⟨dx, fs', h1, hc, rf⟩ := S2.ins e4 ea
          obtain ⟨c1, c2⟩ := hf c hc
          have mu : Mut (H2 a) := by rw [h1]; exact trivial
          have k : Kp α2 H2 α2 (upd H2 a (.ins (p.ca c) dx (putF (nmS f) v fs'))) := .write mu (List.mem_of_getElem? ea)
          refine ⟨a, p.ca c, dx, fs', rfl, h1, hK ▸ c1, hK ▸ c2, by rw [← rf.length]; omega, ?_⟩
          exact q2 α2 _ σ k (S2.write e4 ea ⟨dx, _, upd_same, hc, (RepFs.put (r1.mono k2) rf).mono (.refl _) k.kp⟩) (E2.mono k)
        · exact q2.elim
      · exact q2.elim
    · exact q2.elim
/-- x op= e -/
theorem x_aug {st : Stmt} {i : Nat} {o : Bop} {e' : E} (ti : TIp) (ho : ∀ a b z H Q, (match o with | .add => z = a + b | .sub => z = a - b | _ => False) → Q (.int z) H → ti (.int a) (.int b) H Q) (h1 : PS X st (tAug i (tV p Wx T call e') ti)) : PS X st (tX p Wx T call (.aug i o e')) :=
  PS.by fun D σ H ⟨α, ρ, g, S, E, q⟩ => by
    refine ⟨_, h1, ?_⟩
    simp only [ex] at q
    split at q
    · rename_i x ex
      obtain ⟨v, e1, r1⟩ := E.at_ i x ex
      refine ⟨v, e1, α, ρ, g, S, E, ?_⟩
      refine (ofE (Rp := RepV p) q E).imp fun y H1 _ ⟨α1, g1, u, k1, S1, E1, r2, q1⟩ => ?_
      cases x with
      | int a =>
        cases u with
        | int b =>
          rw [r1.int', r2.int']
          cases o <;> simp only at q1 <;> first | exact q1.elim | skip
          · exact ho a b _ H1 _ rfl (q1 α1 H1 _ (.refl _ _) S1 (E1.set i .int))
          · exact ho a b _ H1 _ rfl (q1 α1 H1 _ (.refl _ _) S1 (E1.set i .int))
        | _ => exact q1.elim
      | _ => exact q1.elim
    · exact q.elim
/-- o.f op= e -/
theorem x_augf {st : Stmt} {o : Bop} {a' e' : E} {f : Nm} (rd : V → V → Hp → VK → Prop) (ho : ∀ a b z H Q, (match o with | .add => z = a + b | .sub => z = a - b | _ => False) → Q (.int z) H → rd (.int a) (.int b) H Q) (hK : p.K = X.K) (hf : FldOk p f)
    (h1 : PS X st (sFldAug X.K (tV p Wx T call a') (tV p Wx T call e') rd (nmS f))) : PS X st (tX p Wx T call (.augf a' f o e')) :=
  PS.by fun D σ H ⟨α, ρ, g, S, E, q⟩ => by
    refine ⟨_, h1, α, ρ, g, S, E, ?_⟩
    simp only [ex] at q
    refine (ofE (Rp := RepV p) q E).imp fun v H1 _ ⟨α1, g1, w, k1, S1, E1, r1, q1⟩ => ?_
    split at q1
    · rename_i i
      obtain ⟨a, rfl, ea⟩ := r1.ref'
      split at q1
      · rename_i c fs e4
        obtain ⟨dx, fs', h1, hc, rf⟩ := S1.ins e4 ea
        obtain ⟨c1, c2⟩ := hf c hc
        rcases RepFs.get (f := f) rf with ⟨a1, a2⟩ | ⟨w', v', a1, a2, a3⟩
        · rw [a1] at q1; exact q1.elim
        · simp only [a1] at q1
          refine ⟨a, p.ca c, dx, fs', v', rfl, h1, hK ▸ c1, hK ▸ c2, a2, α1, ρ, g1, S1, E1, ?_⟩
          refine (ofE (Rp := RepV p) q1 E1).imp fun y H2 _ ⟨α2, g2, u, k2, S2, E2, r2, q2⟩ => ?_
          have ea2 := k2.pre.get ea
          cases w' with
          | int i1 =>
            cases u with
            | int j1 =>
              rw [a3.int', r2.int']
              cases e5 : g2[i]? with
              | none => rw [e5] at q2; exact q2.elim
              | some ob =>
                rw [e5] at q2
                cases ob with
                | ins c' fs2 =>
                  obtain ⟨dx2, fs2', h2, hc2, rf2⟩ := S2.ins e5 ea2
                  have fin : ∀ z : Int, c' = c → fs2.length < 900 → postS p Wx (.go .nx ρ (g2.set i (.ins c' (putFW f (.int z) fs2)))) α2 H2 D →
                      ∃ dx' fs', H2 a = some (.ins (p.ca c) dx' fs') ∧ fs'.length < 1000 ∧ D.nx σ (upd H2 a (.ins (p.ca c) dx' (putF (nmS f) (.int z) fs'))) := by
                    intro z hcc hl q3
                    subst hcc
                    have mu : Mut (H2 a) := by rw [h2]; exact trivial
                    have k : Kp α2 H2 α2 (upd H2 a (.ins (p.ca c') dx2 (putF (nmS f) (.int z) fs2'))) := .write mu (List.mem_of_getElem? ea2)
                    refine ⟨dx2, fs2', h2, by rw [← rf2.length]; omega, ?_⟩
                    exact q3 α2 _ σ k (S2.write e5 ea2 ⟨dx2, _, upd_same, hc, (RepFs.put .int rf2).mono (.refl _) k.kp⟩) (E2.mono k)
                  cases o <;> simp only at q2 <;> first | exact q2.elim | skip
                  · split at q2
                    · rename_i cc; exact ho i1 j1 _ H2 _ rfl (fin _ cc.1 cc.2 q2)
                    · exact q2.elim
                  · split at q2
                    · rename_i cc; exact ho i1 j1 _ H2 _ rfl (fin _ cc.1 cc.2 q2)
                    · exact q2.elim
                | _ => exact q2.elim
            | _ => exact q2.elim
          | _ => cases u <;> exact q2.elim
      · exact q1.elim
    · exact q1.elim
/-- if -/
theorem x_ifs {c : Expr} {a b : List Stmt} {c' : E} {a' b' : SL} {pos : Pos} (h0 : PT X c (tQ p Wx T call c')) (h1 : PSs X a (tXs p Wx T call a')) (h2 : PSs X b (tXs p Wx T call b')) : PS X (.If c a b pos) (tX p Wx T call (.ifs c' a' b')) :=
  PS.by fun D σ H ⟨α, ρ, g, S, E, q⟩ => by
    refine ⟨_, ps_if h0 h1 h2, α, ρ, g, S, E, ?_⟩
    simp only [ex] at q
    refine (ofE (Rp := TB) q E).imp fun x H1 _ ⟨α1, g1, w, k1, S1, E1, r, q1⟩ => ?_
    have r : x = w := r
    subst r
    cases x with
    | true => rw [if_pos rfl]; exact ⟨α1, ρ, g1, S1, E1, q1⟩
    | false => rw [if_neg (by decide)]; exact ⟨α1, ρ, g1, S1, E1, q1⟩
/-- while -/
theorem x_whl {c : Expr} {body : List Stmt} {c' : E} {b' : SL} {pos : Pos} (hp : PassesOwn (model X.prog X.w) X.A X.env X.xe) (h0 : PT X c (tQ p Wx T call c')) (h1 : PSs X body (tXs p Wx T call b')) : PS X (.While c body [] pos) (tX p Wx T call (.whl c' b')) :=
  PS.by fun D σ H ⟨α, ρ, g, S, E, q⟩ => by
    refine ⟨_, ps_while hp h0 h1, ?_⟩
    simp only [ex] at q
    refine ⟨fun m σ H => tS p Wx (Dl.whl (tst T call c') (exs T call b') m) D σ H, ⟨FUEL, α, ρ, g, S, E, q⟩, ?_⟩
    rintro m σ H ⟨α, ρ, g, S, E, q⟩
    cases m with
    | zero => exact q.elim
    | succ m =>
      simp only [Dl.whl] at q
      refine ⟨α, ρ, g, S, E, ?_⟩
      refine (ofE (Rp := TB) q E).imp fun x H1 _ ⟨α1, g1, w, k1, S1, E1, r, q1⟩ => ?_
      have r : x = w := r
      subst r
      cases x with
      | false => rw [if_neg (by decide)]; exact q1 α1 H1 σ (.refl _ _) S1 E1
      | true =>
        rw [if_pos rfl]
        refine ⟨fun σ H => tS p Wx (Dl.whl (tst T call c') (exs T call b') m) D σ H, fun σ' H' h => ⟨m, Nat.lt_succ_self m, h⟩, α1, ρ, g1, S1, E1, ?_⟩
        simp only at q1
        cases hb : exs T call b' ρ g1 with
        | err => rw [hb] at q1; exact q1
        | exc c ρ2 g2 => rw [hb] at q1; exact q1
        | go f ρ2 g2 =>
          rw [hb] at q1
          cases f with
          | nx => exact fun α2 H2 σ2 k2 S2 E2 => ⟨α2, ρ2, g2, S2, E2, postS.mono q1 k2⟩
          | cnt => exact fun α2 H2 σ2 k2 S2 E2 => ⟨α2, ρ2, g2, S2, E2, postS.mono q1 k2⟩
          | brk => exact q1
          | ret w => exact q1
/-- for -/
theorem x_for {tg iter : Expr} {body : List Stmt} {t : Tg} {s' : Src} {b' : SL} {pos : Pos} (hK : p.K = X.K) (hp : PassesOwn (model X.prog X.w) X.A X.env X.xe) (hc : X.calm = true) (hi : PI X tg iter (tC p Wx T call s')) (hg : PG X tg (gT p.K t)) (hb : PSs X body (tXs p Wx T call b'))
    (hs : ∀ x, foldedSetIterable iter X.env x = pure x) : PS X (.For tg iter body [] pos) (tX p Wx T call (.for_ t s' b')) :=
  PS.by fun D σ H ⟨α, ρ, g, S, E, q⟩ => by
    refine ⟨_, ps_for hp hc hi hg hb hs, α, ρ, g, S, E, ?_⟩
    simp only [ex] at q
    refine (ofE (Rp := RepC p) q E).imp fun J H1 _ ⟨α1, g1, cur, k1, S1, E1, rc, q1⟩ => ?_
    -- one turn, whatever the walk
    have turn : ∀ (rest : Nat → Nat → Env → G → RS), (∀ i m ρ g, cur.at_ i g = some none → ∀ α H, postS p Wx (rest i m ρ g) α H D → rest i m ρ g = .go .nx ρ g) → (∀ i m ρ g, cur.at_ i g = none → ∀ α H, postS p Wx (rest i m ρ g) α H D → False) →
        (∀ i m ρ g w, cur.at_ i g = some (some w) → ∀ α H, postS p Wx (rest i m ρ g) α H D → ∃ m' ρ', m = m' + 1 ∧ t.put w ρ = some ρ' ∧ rest i m ρ g = match exs T call b' ρ' g with
          | .go .nx ρ2 g2 | .go .cnt ρ2 g2 => rest (i + 1) m' ρ2 g2
          | .go .brk ρ2 g2 => .go .nx ρ2 g2
          | r => r) → (∃ m0, postS p Wx (rest 0 m0 ρ g1) α1 H1 D) →
        ∃ Wn : Nat → Nat → St → Hp → Prop, (∃ m, Wn 0 m σ H1) ∧ ∀ i m σ H, Wn i m σ H →
          (J.stop i H ∧ D.nx σ H) ∨ (J.go i H ∧ ∃ N : St → Hp → Prop, (∀ σ' H', N σ' H' → ∃ m', m' < m ∧ Wn (i + 1) m' σ' H') ∧ ∀ x H', J.yld i H x H' → gT p.K t x σ H' fun σ2 H2 => tXs p Wx T call b' { D with nx := N, ct := N, bk := D.nx } σ2 H2) := by
      intro rest h1 h2 h3 ⟨m0, q0⟩
      refine ⟨fun i m σ H => ∃ α ρ g, Kp α1 H1 α H ∧ Sim p α g H ∧ SimSt p α H ρ σ ∧ postS p Wx (rest i m ρ g) α H D, ⟨m0, α1, ρ, g1, .refl _ _, S1, E1, q0⟩, ?_⟩
      rintro i m σ H ⟨α, ρ, g, k, S, E, q⟩
      obtain ⟨c1, c2⟩ := rc α g H i k S
      cases hc : cur.at_ i g with
      | none => exact (h2 i m ρ g hc α H q).elim
      | some o =>
        cases o with
        | none =>
          rw [h1 i m ρ g hc α H q] at q
          exact .inl ⟨c1 hc, q α H σ (.refl _ _) S E⟩
        | some w =>
          obtain ⟨m', ρ', rfl, e1, e2⟩ := h3 i m ρ g w hc α H q
          obtain ⟨d1, d2⟩ := c2 w hc
          rw [e2] at q
          refine .inr ⟨d1, fun σ H => ∃ α ρ g, Kp α1 H1 α H ∧ Sim p α g H ∧ SimSt p α H ρ σ ∧ postS p Wx (rest (i + 1) m' ρ g) α H D, fun σ' H' h => ⟨m', Nat.lt_succ_self _, h⟩, fun x H' y => ?_⟩
          obtain ⟨k2, S2, r2⟩ := d2 x H' y
          refine gT_go (vs := t.slots) e1 r2 (E.mono k2) (fun _ h => h) fun σ2 E2 _ => ⟨α, ρ', g, S2, E2, ?_⟩
          replace q := postS.mono q k2
          cases hb : exs T call b' ρ' g with
          | err => rw [hb] at q; exact q
          | exc c ρ2 g2 => rw [hb] at q; exact q
          | go f ρ2 g2 =>
            rw [hb] at q
            cases f with
            | nx => exact fun α3 H3 σ3 k3 S3 E3 => ⟨α3, ρ2, g2, (k.trans k2).trans k3, S3, E3, postS.mono q k3⟩
            | cnt => exact fun α3 H3 σ3 k3 S3 E3 => ⟨α3, ρ2, g2, (k.trans k2).trans k3, S3, E3, postS.mono q k3⟩
            | brk => exact q
            | ret w => exact q
    have liv : postS p Wx (forL t (exs T call b') cur FUEL 0 ρ g1) α1 H1 D → _ := fun q1 => turn (fun i m ρ g => forL t (exs T call b') cur m i ρ g) (fun i m ρ g hc α H q => by
        cases m with
        | zero => exact q.elim
        | succ m => simp only [forL, hc])
      (fun i m ρ g hc α H q => by
        cases m with
        | zero => exact q.elim
        | succ m => simp only [forL, hc] at q; exact q.elim)
      (fun i m ρ g w hc α H q => by
        cases m with
        | zero => exact q.elim
        | succ m =>
          simp only [forL, hc] at q ⊢
          cases hp : t.put w ρ with
          | none => rw [hp] at q; exact q.elim
          | some ρ' => exact ⟨m, ρ', rfl, rfl, rfl⟩) ⟨FUEL, q1⟩
    cases cur with
    | vals ws =>
      refine turn (fun i m ρ g => if m = ws.length - i ∧ i ≤ ws.length then forV t (exs T call b') (ws.drop i) ρ g else .err) (fun i m ρ g hc α H q => ?_) (fun i m ρ g hc α H q => ?_) (fun i m ρ g w hc α H q => ?_) ⟨ws.length, by simpa using q1⟩
      · simp only [Cur.at_, Option.some.injEq] at hc
        split at q
        · rename_i hh
          rw [if_pos hh, List.drop_eq_nil_of_le (List.getElem?_eq_none_iff.mp hc)]
          rfl
        · exact q.elim
      · simp [Cur.at_] at hc
      · simp only [Cur.at_, Option.some.injEq] at hc
        split at q
        · rename_i hh
          obtain ⟨hlt, hw'⟩ := List.getElem?_eq_some_iff.mp hc
          have hdr : ws.drop i = w :: ws.drop (i + 1) := by rw [List.drop_eq_getElem_cons hlt, hw']
          rw [if_pos hh]
          rw [hdr] at q ⊢
          simp only [forV] at q ⊢
          cases hp : t.put w ρ with
          | none => rw [hp] at q; exact q.elim
          | some ρ' =>
            refine ⟨ws.length - (i + 1), ρ', by omega, rfl, ?_⟩
            simp only [show (ws.length - (i + 1) = ws.length - (i + 1) ∧ i + 1 ≤ ws.length) from ⟨rfl, hlt⟩, and_self, if_true]
            all_goals (rcases exs T call b' ρ' g with ⟨f, _, _⟩ | _ | _ <;> first | rfl | (cases f <;> rfl))
        · exact q.elim
    | live i => exact liv q1
    | lenum i => exact liv q1
    | lzip i j => exact liv q1
theorem x_ret {e : Expr} {e' : E} {pos : Pos} (h : PE X e (tV p Wx T call e')) : PS X (.Return (some e) pos) (tX p Wx T call (.ret e')) :=
  PS.by fun D σ H ⟨α, ρ, g, S, E, q⟩ => by
    refine ⟨_, ps_ret h, α, ρ, g, S, E, ?_⟩
    simp only [ex] at q
    exact (ofE (Rp := RepV p) q E).imp fun x H1 _ ⟨α1, g1, w, k1, S1, E1, r, q1⟩ => q1 α1 H1 x (.refl _ _) S1 r
theorem x_retn {pos : Pos} : PS X (.Return none pos) (tX p Wx T call .retn) :=
  PS.by fun D σ H ⟨α, ρ, g, S, E, q⟩ => ⟨_, ps_retN, by simp only [ex] at q; exact q α H _ (.refl _ _) S .non⟩
theorem x_expr {st : Stmt} {e' : E} (h : PS X st (tDrop (tV p Wx T call e'))) : PS X st (tX p Wx T call (.expr e')) :=
  PS.by fun D σ H ⟨α, ρ, g, S, E, q⟩ => by
    refine ⟨_, h, α, ρ, g, S, E, ?_⟩
    simp only [ex] at q
    exact (ofE (Rp := RepV p) q E).imp fun x H1 _ ⟨α1, g1, w, k1, S1, E1, r, q1⟩ => q1 α1 H1 σ (.refl _ _) S1 E1
theorem x_brk {pos : Pos} : PS X (.Break pos) (tX p Wx T call .brk) := PS.by fun D σ H ⟨α, ρ, g, S, E, q⟩ => ⟨_, ps_break, by simp only [ex] at q; exact q α H σ (.refl _ _) S E⟩
theorem x_cnt {pos : Pos} : PS X (.Continue pos) (tX p Wx T call .cnt) := PS.by fun D σ H ⟨α, ρ, g, S, E, q⟩ => ⟨_, ps_continue, by simp only [ex] at q; exact q α H σ (.refl _ _) S E⟩
theorem x_pass {pos : Pos} : PS X (.Pass pos) (tX p Wx T call .pass) := PS.by fun D σ H ⟨α, ρ, g, S, E, q⟩ => ⟨_, ps_pass, by simp only [ex] at q; exact q α H σ (.refl _ _) S E⟩
theorem x_rais {e : Expr} {c : Nat} {pos : Pos} (hc : X.calm = true) (tk : Takes X Wx) (h : PMk X e (fun _ H Q => Q (.ref (p.xa c)) none H)) : PS X (.Raise (some e) none pos) (tX p Wx T call (.rais c)) :=
  PS.by fun D σ H ⟨α, ρ, g, S, E, q⟩ => ⟨_, ps_raise hc tk h, by simp only [ex] at q; exact q α H σ (.refl _ _) S E⟩
end
end Dl

/-! DlZ: dict comprehensions, sorted of a dict. -/
namespace Dl
open PySem L2
/-- name = {..} on one line, the name a local -/
theorem ps_setDc {X : Cx} {i : Nat} {y : Str} {py : Pos} {kx vx tg iter : Expr} {ifs : List Expr} {scope : Scope} {own : List (Str × Nat)} {pos spos : Pos} {wi : TI} {g : TG} {tt : TT} {tk tv : TE} (hc : X.calm = true) (hN : X.N.Nodup) (hy : X.N[i]? = some y) (hyl : X.env.scope.names.lookup y = some .local)
    (hsw : swapsWith (.DictComp kx vx [⟨tg, iter, ifs, 0⟩] scope pos) (some (.Name y py)) spos.line X.env = pure true) (hi : PI X tg iter wi) (ok : BlkOk X.N X.env.scope scope own)
    (hg : ∀ (s : Shared) (H : Hp) (C : Addr) (cl : List (Str × Addr)) (fp : List Addr), PG (X.blk s H scope (compEnvC scope cl C X.env) fp) tg g) (ht : ∀ (s : Shared) (H : Hp) (C : Addr) (cl : List (Str × Addr)) (fp : List Addr), PTs (X.blk s H scope (compEnvC scope cl C X.env) fp) ifs tt)
    (hk : ∀ (s : Shared) (H : Hp) (C : Addr) (cl : List (Str × Addr)) (fp : List Addr), PE (X.blk s H scope (compEnvC scope cl C X.env) fp) kx tk)
    (he : ∀ (s : Shared) (H : Hp) (C : Addr) (cl : List (Str × Addr)) (fp : List Addr), PE (X.blk s H scope (compEnvC scope cl C X.env) fp) vx tv) (hs : ∀ x, foldedSetIterable iter X.env x = pure x := by intro _; rfl) :
    PS X (.Assign [.Name y py] (.DictComp kx vx [⟨tg, iter, ifs, 0⟩] scope pos) spos) (tAsg (tDc wi g tt tk tv (own.map (·.2))) (gName i)) := by
  refine ⟨fun pins s σ H D I h => ?_⟩
  rw [exec_Assign_Name_used _ _ _ _ hsw]
  refine wpAny_bind (wpAny_standAt (wpAny_bind ?_))
  show wpAny _ X.A (do let _ ← comprehension (.DictComp kx vx [⟨tg, iter, ifs, 0⟩] scope pos) scope X.env (firstIterPos [⟨tg, iter, ifs, 0⟩] pos) newDict false (eval iter X.env) (some (assign (.Name y py) X.env))) _ _ s
  have h : tDc wi g tt tk tv (own.map (·.2)) σ H (fun x H1 => gName i x σ H1 D.nx) := h
  refine wpAny_bind (thn (dc_core (Qf := fun _ s' => SP X pins D .next s') hc hN I hi ok hg ht hk he hs h fun L C s' m H' I' q hn f => ?_) fun _ s' hq => wpAny_pure (wpAny_pure hq))
  show wpAny _ _ (assign (.Name y py) X.env (.ref L)) _ _ _
  refine wpAny_assign_Name (store_ok2 (v := V.ref L) I' hN hy (.inl hyl) rfl (fun s2 I2 ⟨a, sb, ha⟩ => ?_) (.inr hyl))
  obtain ⟨f0, f1, f2, f3, f4, f5⟩ := f
  have haC : C ≠ a := by
    rcases ha with z | z
    · rw [z]; exact f1
    · exact fun e => f4 y a z e.symm
  refine ⟨m, hn.sameBut sb haC, fun h3 sb3 => ?_⟩
  exact ⟨_, H', I2.turned (t' := s2.toks) (fun b o hb e => (sb3.2 b hb).trans e) f0 f1 f3 f4 f5, q⟩
section
variable {p : Px} {Wx : WX} {X : Cx} {T : Tbl} {call : CallF}
theorem putD_len (kvs : List (W × W)) (k v : W) : (putD kvs k v).length ≤ kvs.length + 1 := by
  unfold putD
  split
  · simp
  · simp
/-- the entries -/
def dits (T : Tbl) (call : CallF) (vs : List Nat) (t : Tg) (s : Src) (c k v : E) (ρ : Env) (g : G) : R (List (W × W)) := (src T call s ρ g).bind fun cur g1 => match cur with
  | .vals ws => if ws.length ≤ lim then dcV t (tst T call c) (ev T call k) (ev T call v) (wipeE ρ vs) ws [] g1 else .err
  | cur => dcL t (tst T call c) (ev T call k) (ev T call v) (wipeE ρ vs) cur FUEL 0 [] g1
theorem ev_dcomp {vs : List Nat} {t : Tg} {s : Src} {c k v : E} (ρ : Env) (g : G) : ev T call (.dcomp vs t s c k v) ρ g = (dits T call vs t s c k v ρ g).bind fun kvs g2 => .ok (.ref g2.length) (g2 ++ [.dct kvs]) := by
  simp only [ev, dits]
  cases src T call s ρ g with
  | ok cur g1 => cases cur <;> rfl
  | exc _ _ => rfl
  | err => rfl
/-- a new dict at D, told or not -/
def postD (p : Px) (Wx : WX) (r : R (List (W × W))) (α : List Addr) (H : Hp) (σ : St) (Q : VK) : Prop := match r with
  | .ok ws g' => ∀ α' H' D vs, Kp α H α' H' → Sim p α' g' H' → H' D = some (.dK vs) → D ∉ α' → Kp α H (α' ++ [D]) H' → RepKV p α' H' ws vs → Q (.ref D) H'
  | .exc c g' => ∀ α' H', Kp α H α' H' → Sim p α' g' H' → Wx (.ref (p.xa c)) none σ H'
  | .err => False
def tD (p : Px) (Wx : WX) (f : Env → G → R (List (W × W))) : TE := fun σ H Q => ∃ α ρ g, Sim p α g H ∧ SimSt p α H ρ σ ∧ postD p Wx (f ρ g) α H σ Q
theorem postD.mono {r : R (List (W × W))} {α α' : List Addr} {H H' : Hp} {σ : St} {Q : VK} (h : postD p Wx r α H σ Q) (k : Kp α H α' H') : postD p Wx r α' H' σ Q := by
  cases r with
  | ok w g => exact fun α2 H2 D vs b c d e f z => h α2 H2 D vs (k.trans b) c d e (k.trans f) z
  | exc c g => exact fun α2 H2 b c => h α2 H2 (k.trans b) c
  | err => exact h
theorem Sim.adoptD {α : List Addr} {g : G} {H : Hp} {D : Addr} {o : Ob} (s : Sim p α g H) (n : D ∉ α) (r : RepO p (α ++ [D]) H D o) : Sim p (α ++ [D]) (g ++ [o]) H := by
  refine ⟨by simp [s.len], fun i o' a e1 e2 => ?_, ?_⟩
  · by_cases hi : i < g.length
    · rw [List.getElem?_append_left hi] at e1
      rw [List.getElem?_append_left (by rw [s.len]; exact hi)] at e2
      exact (s.ob i o' a e1 e2).mono ⟨[D], rfl⟩ (.refl _) rfl
    · have : i = g.length := by
        have := (List.getElem?_eq_some_iff.mp e1).1
        simp at this
        omega
      subst this
      rw [List.getElem?_append_right (Nat.le_refl _)] at e1
      rw [← s.len, List.getElem?_append_right (Nat.le_refl _)] at e2
      simp at e1 e2
      subst e1 e2
      exact r
  · rw [List.nodup_append]
    refine ⟨s.nd, by simp, fun a ha b hb => ?_⟩
    have : b = D := by simpa using hb
    subst this
    rintro rfl
    exact n ha
theorem allocD_go {f : Env → G → R (List (W × W))} {σ : St} {H : Hp} {Q : VK} (h : tE p Wx (fun ρ g => (f ρ g).bind fun ws g2 => .ok (.ref g2.length) (g2 ++ [.dct ws])) σ H Q) : tD p Wx f σ H Q := by
    obtain ⟨α, ρ, g, S, E, q⟩ := h
    refine ⟨α, ρ, g, S, E, ?_⟩
    simp only at q
    cases hr : f ρ g with
    | err => rw [hr] at q; exact q
    | exc c g1 => rw [hr] at q; exact q
    | ok ws g1 =>
      rw [hr] at q
      intro α1 H1 D vs k1 S1 hD nD k2 rs
      exact q (α1 ++ [D]) H1 (.ref D) k2 (S1.adoptD nD ⟨vs, hD, rs.mono ⟨[D], rfl⟩ (.refl _)⟩) (.ref (by rw [← S1.len]; simp))
/-- one turn -/
theorem dc_turn {t : Tg} {c ke ve : E} {α αs : List Addr} {H Hs : Hp} {D : Addr} {acc : List (W × W)} {vs : List (Key × V)} {w : W} {x : V} {ρ ρ' : Env} {σ : St} {g : G} {Q : VK} {own : List Nat} {Nx : Hp → Prop}
    {tt : TT} {tk tv : TE} (htt : tt = tB p WF (tst T call c)) (htk : tk = tE p WF (ev T call ke)) (htv : tv = tE p WF (ev T call ve)) (k0 : List (W × W) → G → R (List (W × W)))
    (e : t.put w (wipeE ρ own) = some ρ') (r : RepV p α H w x) (S : Sim p α g H) (E : SimSt p α H (wipeE ρ own) (wipe σ own)) (hv : ∀ i ∈ t.slots, i ∈ own) (hD : H D = some (.dK vs)) (nD : D ∉ α) (ra : RepKV p α H acc vs) (k : Kp αs Hs α H) (hs : Hs D = none) (hacc : acc.length + 1 ≤ lim)
    (q : postD p Wx ((tst T call c ρ' g).nx.bind fun b g1 => match b with
        | false => k0 acc g1
        | true => (ev T call ke ρ' g1).nx.bind fun x g2 => (ev T call ve ρ' g2).nx.bind fun y g3 => if fits [] x then k0 (putD acc x y) g3 else .err) αs Hs σ Q)
    (hN : ∀ α' g' H' acc' vs', acc'.length ≤ acc.length + 1 → Kp αs Hs α' H' → Sim p α' g' H' → H' D = some (.dK vs') → D ∉ α' → RepKV p α' H' acc' vs' → postD p Wx (k0 acc' g') αs Hs σ Q → Nx H') :
    gT p.K t x (wipe σ own) H fun σ2 H2 => wipe σ2 own = wipe σ own ∧ tt σ2 H2 fun b H3 =>
      if b = true then tk σ2 H3 fun y H4 => tv σ2 H4 fun z H5 => ∃ kvs κ, y = kV κ ∧ H5 D = some (.dK kvs) ∧ kvs.length < sizeLine ∧ Nx (upd H5 D (.dK (putK kvs κ z))) else Nx H3 := by
  refine gT_go e r E hv fun σ2 E2 o2 => ⟨wipe_same o2, ?_⟩
  subst htt htk htv
  refine ⟨α, ρ', g, S, E2, ?_⟩
  cases hb : tst T call c ρ' g with
  | err => rw [hb] at q; exact q.elim
  | exc c g1 => rw [hb] at q; exact q.elim
  | ok b g1 =>
    rw [hb] at q
    intro α1 H1 b' k1 S1 eb
    have eb : b' = b := eb
    subst eb
    obtain ⟨hD1, nD1⟩ := k1.fr D _ hD nD
    cases b' with
    | false =>
      rw [if_neg (by decide)]
      exact hN α1 g1 H1 acc vs (by omega) (k.trans k1) S1 hD1 nD1 (ra.mono k1.pre k1.kp) q
    | true =>
      rw [if_pos rfl]
      refine ⟨α1, ρ', g1, S1, E2.mono k1, ?_⟩
      cases he : ev T call ke ρ' g1 with
      | err => simp only [R.bind, R.nx, he] at q; exact q.elim
      | exc c g2 => simp only [R.bind, R.nx, he] at q; exact q.elim
      | ok y g2 =>
        simp only [R.bind, R.nx, he] at q
        intro α2 H2 yv k2 S2 ry
        obtain ⟨hD2, nD2⟩ := k2.fr D _ hD1 nD1
        refine ⟨α2, ρ', g2, S2, (E2.mono k1).mono k2, ?_⟩
        cases hf : ev T call ve ρ' g2 with
        | err => simp only [R.bind, R.nx, hf] at q; exact q.elim
        | exc c g3 => simp only [R.bind, R.nx, hf] at q; exact q.elim
        | ok z g3 =>
          simp only [R.bind, R.nx, hf] at q
          intro α3 H3 zv k3 S3 rz
          obtain ⟨hD3, nD3⟩ := k3.fr D _ hD2 nD2
          split at q
          · rename_i hft
            obtain ⟨κ, hκ⟩ := fits_key hft
            have hy := keyK_rep hκ ry
            subst hy
            have ra3 := ((ra.mono k1.pre k1.kp).mono k2.pre k2.kp).mono k3.pre k3.kp
            have hl := ra3.length
            refine ⟨vs, κ, rfl, hD3, by have := lim_line; omega, ?_⟩
            have mu : Mut (H3 D) := by rw [hD3]; exact trivial
            have kk : Kp αs Hs α3 H3 := ((k.trans k1).trans k2).trans k3
            have kw : Keep H3 (upd H3 D (.dK (putK vs κ zv))) := .write mu
            have kk' : Kp αs Hs α3 (upd H3 D (.dK (putK vs κ zv))) := ⟨kk.pre, kk.kp.trans kw, fun a u e n => by
              obtain ⟨e1, n1⟩ := kk.fr a u e n
              exact ⟨by rw [upd_ne (ne_of_none e hs)]; exact e1, n1⟩⟩
            exact hN α3 g3 _ (putD acc y z) (putK vs κ zv) (putD_len _ _ _) kk' (S3.mono kw fun a u _ _ ha => by
              rw [upd_ne]
              rintro rfl
              exact nD3 ha) upd_same nD3 ((RepKV.put hκ rz ra3).mono (.refl _) kw) q
          · exact q.elim
/-- a dict comprehension of one clause -/
theorem dcomp_go {own : List Nat} {t : Tg} {s : Src} {c ke ve : E} (hv : ∀ i ∈ t.slots, i ∈ own) {σ : St} {H : Hp} {Q : VK} (h : tD p Wx (dits T call own t s c ke ve) σ H Q) : tDc (tC p Wx T call s) (gT p.K t) (tB p WF (tst T call c)) (tE p WF (ev T call ke)) (tE p WF (ev T call ve)) own σ H Q := by
    obtain ⟨α, ρ, g, S, E, q⟩ := h
    refine ⟨α, ρ, g, S, E, ?_⟩
    simp only [dits] at q
    cases hsrc : src T call s ρ g with
    | err => rw [hsrc] at q; exact q
    | exc c g1 => rw [hsrc] at q; exact q
    | ok cur g1 =>
      rw [hsrc] at q
      intro αs Hs J ks Ss rc D hDn
      have q := postD.mono q ks
      have Es := (E.mono ks).wipe own
      have kj : Kp αs Hs αs (upd Hs D (.dK [])) := .junk hDn
      have nDs : D ∉ αs := fun hm => by
        obtain ⟨u, hu⟩ := Ss.trk hm
        rw [hDn] at hu; cases hu
      have Sj := Ss.junk (u := .dK []) hDn
      have stopK : ∀ {α H}, Kp αs Hs α H → Kp αs Hs (α ++ [D]) H := fun {α H} k => ⟨k.pre.trans ⟨[D], rfl⟩, k.kp, fun a u e n => by
        obtain ⟨e1, n1⟩ := k.fr a u e n
        refine ⟨e1, fun hm => ?_⟩
        rcases List.mem_append.mp hm with hm | hm
        · exact n1 hm
        · have : a = D := by simpa using hm
          subst this
          rw [hDn] at e; cases e⟩
      have run : ∀ (rest : Nat → Nat → List (W × W) → G → R (List (W × W))), (∀ i m acc g, cur.at_ i g = some none → postD p Wx (rest i m acc g) αs Hs σ Q → rest i m acc g = .ok acc g) →
          (∀ i m acc g, cur.at_ i g = none → postD p Wx (rest i m acc g) αs Hs σ Q → False) →
          (∀ i m acc g w, cur.at_ i g = some (some w) → acc.length ≤ i → postD p Wx (rest i m acc g) αs Hs σ Q → ∃ m', m = m' + 1 ∧ i + 1 ≤ lim ∧ ∃ ρ', t.put w (wipeE ρ own) = some ρ' ∧
            rest i m acc g = (tst T call c ρ' g).nx.bind fun b g1 => match b with
              | false => rest (i + 1) m' acc g1
              | true => (ev T call ke ρ' g1).nx.bind fun x g2 => (ev T call ve ρ' g2).nx.bind fun y g3 => if fits [] x then rest (i + 1) m' (putD acc x y) g3 else .err) →
          (∃ m0, postD p Wx (rest 0 m0 [] g1) αs Hs σ Q) →
          ∃ Wn : Nat → Nat → Hp → Prop, (∃ m, Wn 0 m (upd Hs D (.dK []))) ∧ ∀ i m H, Wn i m H →
            (J.stop i H ∧ Q (.ref D) H) ∨ (J.go i H ∧ ∃ Nx : Hp → Prop, (∀ H', Nx H' → ∃ m', m' < m ∧ Wn (i + 1) m' H') ∧ ∀ x H', J.yld i H x H' → gT p.K t x (wipe σ own) H' fun σ2 H2 => wipe σ2 own = wipe σ own ∧ tB p WF (tst T call c) σ2 H2 fun b H3 =>
              if b = true then tE p WF (ev T call ke) σ2 H3 fun y H4 => tE p WF (ev T call ve) σ2 H4 fun z H5 => ∃ kvs k, y = kV k ∧ H5 D = some (.dK kvs) ∧ kvs.length < sizeLine ∧ Nx (upd H5 D (.dK (putK kvs k z))) else Nx H3) := by
        intro rest hstop hno hgo ⟨m0, q0⟩
        refine ⟨fun i m H => ∃ α g acc vs, Kp αs Hs α H ∧ Sim p α g H ∧ H D = some (.dK vs) ∧ D ∉ α ∧ RepKV p α H acc vs ∧ acc.length ≤ i ∧ postD p Wx (rest i m acc g) αs Hs σ Q,
          ⟨m0, αs, g1, [], [], kj, Sj, upd_same, nDs, rfl, Nat.zero_le _, q0⟩, ?_⟩
        rintro i m H ⟨α, g, acc, vs, k, S, hD, nD, ra, hl, q⟩
        obtain ⟨c1, c2⟩ := rc α g H i k S
        cases hc : cur.at_ i g with
        | none => exact (hno i m acc g hc q).elim
        | some o =>
          cases o with
          | none =>
            rw [hstop i m acc g hc q] at q
            exact .inl ⟨c1 hc, q α H D vs k S hD nD (stopK k) ra⟩
          | some w =>
            obtain ⟨m', rfl, hlim, ρ', e1, e2⟩ := hgo i m acc g w hc hl q
            obtain ⟨d1, d2⟩ := c2 w hc
            rw [e2] at q
            refine .inr ⟨d1, fun H' => ∃ α g acc vs, Kp αs Hs α H' ∧ Sim p α g H' ∧ H' D = some (.dK vs) ∧ D ∉ α ∧ RepKV p α H' acc vs ∧ acc.length ≤ i + 1 ∧ postD p Wx (rest (i + 1) m' acc g) αs Hs σ Q, fun H' h => ⟨m', by omega, h⟩, fun x H' y => ?_⟩
            obtain ⟨k2, S2, r2⟩ := d2 x H' y
            obtain ⟨hD2, nD2⟩ := k2.fr D _ hD nD
            exact dc_turn (own := own) rfl rfl rfl (rest (i + 1) m') e1 r2 S2 ((Es.mono k).mono k2) hv hD2 nD2 (ra.mono k2.pre k2.kp) (k.trans k2) hDn (by omega) q
              (fun α' g' H' acc' vs' a0 a1 a2 a3 a4 a5 a6 => ⟨α', g', acc', vs', a1, a2, a3, a4, a5, by omega, a6⟩)
      have mkL : ∀ (hq : postD p Wx (dcL t (tst T call c) (ev T call ke) (ev T call ve) (wipeE ρ own) cur FUEL 0 [] g1) αs Hs σ Q), _ := fun hq =>
        run (fun i m acc g => if i + m ≤ lim then dcL t (tst T call c) (ev T call ke) (ev T call ve) (wipeE ρ own) cur m i acc g else .err) (fun i m acc g hc q => by
            try simp only at q ⊢
            split at q
            · rename_i hh
              rw [if_pos hh]
              cases m with
              | zero => exact q.elim
              | succ m => simp only [dcL, hc]
            · exact q.elim)
          (fun i m acc g hc q => by
            try simp only at q
            split at q
            · cases m with
              | zero => exact q.elim
              | succ m => simp only [dcL, hc] at q; exact q.elim
            · exact q.elim)
          (fun i m acc g w hc hl q => by
            try simp only at q ⊢
            split at q
            · rename_i hh
              cases m with
              | zero => exact q.elim
              | succ m =>
                refine ⟨m, rfl, by omega, ?_⟩
                rw [if_pos hh]
                simp only [dcL, hc] at q ⊢
                cases hp : t.put w (wipeE ρ own) with
                | none => rw [hp] at q; exact q.elim
                | some ρ' =>
                  refine ⟨ρ', rfl, ?_⟩
                  simp only [show i + 1 + m ≤ lim by omega, if_true]
                  all_goals first | rfl | (congr 1; done) | (congr 1; funext b g1; cases b <;> rfl)
            · exact q.elim)
          ⟨FUEL, by simp only [show 0 + FUEL ≤ lim from by decide, if_true]; exact hq⟩
      cases cur with
      | vals ws =>
        simp only [R.bind] at q
        split at q
        · rename_i hw
          refine run (fun i m acc g => if m = ws.length - i ∧ i ≤ ws.length then dcV t (tst T call c) (ev T call ke) (ev T call ve) (wipeE ρ own) (ws.drop i) acc g else .err) (fun i m acc g hc q => ?_) (fun i m acc g hc q => ?_) (fun i m acc g w hc hl q => ?_) ⟨ws.length, by simpa using q⟩
          · simp only [Cur.at_, Option.some.injEq] at hc
            try simp only at q ⊢
            split at q
            · rename_i hh
              rw [if_pos hh, List.drop_eq_nil_of_le (List.getElem?_eq_none_iff.mp hc)]
              rfl
            · exact q.elim
          · simp [Cur.at_] at hc
          · simp only [Cur.at_, Option.some.injEq] at hc
            try simp only at q ⊢
            split at q
            · rename_i hh
              obtain ⟨hlt, hw'⟩ := List.getElem?_eq_some_iff.mp hc
              have hdr : ws.drop i = w :: ws.drop (i + 1) := by rw [List.drop_eq_getElem_cons hlt, hw']
              rw [if_pos hh]
              rw [hdr] at q ⊢
              refine ⟨ws.length - (i + 1), by omega, by omega, ?_⟩
              simp only [dcV] at q ⊢
              cases hp : t.put w (wipeE ρ own) with
              | none => rw [hp] at q; exact q.elim
              | some ρ' =>
                refine ⟨ρ', rfl, ?_⟩
                simp only [show (ws.length - (i + 1) = ws.length - (i + 1) ∧ i + 1 ≤ ws.length) from ⟨rfl, hlt⟩, and_self, if_true]
                all_goals first | rfl | (congr 1; done) | (congr 1; funext b g1; cases b <;> rfl)
            · exact q.elim
        · exact q.elim
      | live i => exact mkL q
      | lenum i => exact mkL q
      | lzip i j => exact mkL q
theorem dcomp_val {e : Expr} {own : List Nat} {t : Tg} {s : Src} {c ke ve : E} (hv : ∀ i ∈ t.slots, i ∈ own)
    (hd : PE X e (tDc (tC p Wx T call s) (gT p.K t) (tB p WF (tst T call c)) (tE p WF (ev T call ke)) (tE p WF (ev T call ve)) own)) : PE X e (tV p Wx T call (.dcomp own t s c ke ve)) :=
  PE.by fun σ H Q q => ⟨_, hd, dcomp_go hv (allocD_go (by
    have e2 : ev T call (.dcomp own t s c ke ve) = fun ρ g => (dits T call own t s c ke ve ρ g).bind fun ws g2 => R.ok (W.ref g2.length) (g2 ++ [Ob.dct ws]) := by
      funext ρ g
      rw [ev_dcomp]
    have q2 : tE p Wx (ev T call (.dcomp own t s c ke ve)) σ H Q := q
    rw [e2] at q2
    exact q2))⟩
/-! ### sorted -/
def rSortDI : List V → Hp → VK → Prop := fun xs H Q => ∃ (a : Addr) (kvs : List (Key × V)) (ks : List Int), xs = [.ref a] ∧ Rd H a (.dK kvs) ∧ kvs.map (·.1) = ks.map Sum.inl ∧ ks.length < 64 ∧
    ∀ (ys : List Int) (p : Addr), ys.Perm ks → ys.Pairwise (· ≤ ·) → H p = none → Q (.ref p) (upd H p (.lst (ys.map V.int)))
theorem keys_ints {α : List Addr} {H : Hp} : ∀ {kvs : List (W × W)} {kvs' : List (Key × V)} {l : List Int}, RepKV p α H kvs kvs' → asInts (kvs.map (·.1)) = some l → kvs'.map (·.1) = l.map Sum.inl
  | [], _, l, h, e => by
    have : _ = [] := h
    subst this
    simp [asInts] at e
    subst e; rfl
  | (a, b) :: r, _, l, ⟨k, v, q, e, ek, rv, rr⟩, h => by
    subst e
    cases a <;> simp only [List.map_cons, asInts] at h <;> try cases h
    simp only [Option.map_eq_some_iff] at h
    obtain ⟨l', h, rfl⟩ := h
    simp [keyK] at ek
    subst ek
    simp [keys_ints rr h]
theorem e_srt {e : Expr} {a' : E} (hK : p.K = X.K) (h1 : PE X e (tCB (rSorted X.K) (tCons (tV p Wx T call a') tNil))) (h2 : PE X e (tCB rSortDI (tCons (tV p Wx T call a') tNil))) : PE X e (tV p Wx T call (.srt a')) :=
  PE.by fun σ H Q ⟨α, ρ, g, S, E, q⟩ => by
    simp only [ev] at q
    by_cases isd : ∃ w g1 kvs, ev T call a' ρ g = .ok w g1 ∧ kvsOf w g1 = some kvs
    · obtain ⟨w, g1, kvs, e1, e2⟩ := isd
      refine ⟨_, h2, α, ρ, g, S, E, ?_⟩
      rw [e1] at q ⊢
      simp only [R.bind, e2] at q
      intro α1 H1 v K1 S1 r
      cases w with
      | ref i =>
        obtain ⟨a, rfl, ea⟩ := r.ref'
        obtain ⟨kvs', hd, rr⟩ := S1.kvs e2 ea
        have q := post.mono q K1
        simp only [BS.run] at q
        split at q
        · rename_i l el
          split at q
          · rename_i c
            refine ⟨a, kvs', l, rfl, hd, keys_ints rr el, c, fun ns' q1 pe so hq => ?_⟩
            have : ns' = sortI l := sorted_uniq (pe.trans (sortI_perm l).symm) so (sortI_sorted l)
            subst this
            exact post.newL q S1 rep_ints hq
          · exact q.elim
        · exact q.elim
      | _ => simp [kvsOf] at e2
    · refine ⟨_, h1, α, ρ, g, S, E, ?_⟩
      cases hr : ev T call a' ρ g with
      | err => rw [hr] at q; exact q.elim
      | exc c g1 => rw [hr] at q; exact q
      | ok w g1 =>
        rw [hr] at q
        have hn : kvsOf w g1 = none := by
          cases hk : kvsOf w g1 with
          | none => rfl
          | some kvs => exact absurd ⟨w, g1, kvs, hr, hk⟩ isd
        simp only [R.bind, hn] at q
        intro α1 H1 v K1 S1 r
        have q := post.mono q K1
        cases hl : lstOf w g1 with
        | none => rw [hl] at q; exact q.elim
        | some ws =>
          rw [hl] at q
          obtain ⟨a, vs, rfl, L, rs⟩ := lstOf_rep S1 r hl
          exact bs_sorted hK S1 L rs q
end
end Dl

/-! DlL: from the text's syntax to the interpreter's; it is sound. -/
namespace Dl
open PySem L2
inductive Blt where
  | abs | int | len | any | all | sum | max | min | sorted | tuple | list | isinstance | range | enumerate | zip | set | repr
  deriving DecidableEq
def Blt.name : Blt → Str
  | .abs => "abs" | .int => "int" | .len => "len" | .any => "any" | .all => "all" | .sum => "sum" | .max => "max" | .min => "min" | .sorted => "sorted" | .tuple => "tuple" | .list => "list"
  | .isinstance => "isinstance" | .range => "range" | .enumerate => "enumerate" | .zip => "zip" | .set => "set" | .repr => "repr"
/-- what a global name stands for -/
inductive GV where
  | fn (i : Nat) | cls (c : Nat) | val (w : W) | exc (c : Nat) | blt (b : Blt) | ty (t : Ty)
structure Cn where
  gl : List (Str × GV)
  fld : List Nm
  N : List Str
  /-- the law's own def: no repr is under way -/
  top : Bool
def ixOf (x : Str) : List Str → Nat → Option Nat
  | [], _ => none
  | y :: r, k => if y = x then some k else ixOf x r (k + 1)
theorem ixOf_get {x : Str} : ∀ {l : List Str} {k i : Nat}, ixOf x l k = some i → k ≤ i ∧ l[i - k]? = some x
  | [], _, _, h => by simp [ixOf] at h
  | y :: r, k, i, h => by
    simp only [ixOf] at h
    split at h
    · rename_i e
      cases h
      exact ⟨Nat.le_refl _, by simp [e]⟩
    · obtain ⟨a, b⟩ := ixOf_get h
      refine ⟨by omega, ?_⟩
      have : i - k = (i - (k + 1)) + 1 := by omega
      rw [this]
      simpa using b
def isGl (sc : Scope) (x : Str) : Bool := decide (sc.names.lookup x = some .globalImplicit) && (!(x == ("__debug__" : Str))) && decide (x ≠ ("__name__" : Str))
def isVis (sc : Scope) (x : Str) : Bool := (match sc.names.lookup x with
  | some .local | some .cell | some .free => true
  | _ => false) && (!(x == ("__debug__" : Str))) && (!(x == ("__classdict__" : Str)))
def isLoc (sc : Scope) (x : Str) : Bool := decide (sc.names.lookup x = some .local)
def cName (c : Cn) (sc : Scope) (x : Str) : Option E :=
  if isVis sc x then (ixOf x c.N 0).map .var else if isGl sc x then match c.gl.lookup x with
    | some (.val w) => some (.cst w)
    | _ => none
  else none
def cBop : Operator → Option Bop
  | .Add => some .add | .Sub => some .sub | .Mult => some .mul | .FloorDiv => some .fdiv | .Mod => some .mod | .Pow => some .pow | .LShift => some .shl | .RShift => some .shr | .BitAnd => some .band | .BitOr => some .bor | .BitXor => some .bxor
  | _ => none
theorem cBop_ok {o : Operator} {b : Bop} (h : cBop o = some b) : o = b.op := by cases o <;> simp [cBop] at h <;> subst h <;> rfl
def cCop : CmpOp → Cop
  | .Eq => .eq | .NotEq => .ne | .Lt => .lt | .LtE => .le | .Gt => .gt | .GtE => .ge | .Is => .is_ | .IsNot => .isnot | .In => .in_ | .NotIn => .notin
theorem cCop_ok (o : CmpOp) : (cCop o).op = o := by cases o <;> rfl
def notSet : Expr → Bool
  | .Set _ _ _ => false
  | _ => true
def notSlice : Expr → Bool
  | .Slice _ _ _ _ => false
  | _ => true
def notComp : Expr → Bool
  | .ListComp _ _ _ _ | .SetComp _ _ _ _ | .DictComp _ _ _ _ _ => false
  | _ => true
/-- a target within the scope -/
def isTg (cl : Str → Bool) (sc : Scope) (x : Str) : Bool := isLoc sc x || (decide (sc.names.lookup x = some .cell) && cl x)
def cTgN (c : Cn) (cl : Str → Bool) (sc : Scope) : Expr → Option Nat
  | .Name x _ => if isTg cl sc x then ixOf x c.N 0 else none
  | _ => none
def cTgs (c : Cn) (cl : Str → Bool) (sc : Scope) : List Expr → Option (List Nat)
  | [] => some []
  | e :: r => match cTgN c cl sc e, cTgs c cl sc r with
    | some i, some l => some (i :: l)
    | _, _ => none
def cTg (c : Cn) (cl : Str → Bool) (sc : Scope) : Expr → Option Tg
  | .Name x p => (cTgN c cl sc (.Name x p)).map .nm
  | .Tuple es _ _ => (cTgs c cl sc es).map .tp
  | _ => none
/-- cells of a comprehension's own scope; of a def -/
def clB (scope : Scope) (x : Str) : Bool := scope.names.lookup x == some .cell
def clA (_ : Str) : Bool := true
/-- the own names of a comprehension's scope -/
def cOwn (c : Cn) : List (Str × NameKind) → Option (List (Str × Nat))
  | [] => some []
  | (x, .local) :: r => match ixOf x c.N 0, cOwn c r with
    | some i, some l => some ((x, i) :: l)
    | none, o => o
    | _, _ => none
  | (x, .cell) :: r => match ixOf x c.N 0, cOwn c r with
    | some i, some l => some ((x, i) :: l)
    | none, o => o
    | _, _ => none
  | _ :: r => cOwn c r
def isTestPlain : Expr → Bool
  | .UnaryOp .Not _ _ | .BoolOp _ _ _ | .IfExp _ _ _ _ | .Compare _ _ _ _ => false
  | _ => true
structure Rec where
  e : Scope → Expr → Option E
  el : Scope → List Expr → Option EL
  b : Scope → BoolOp → List Expr → Option E
  t : Scope → Expr → Option E
  bt : Scope → BoolOp → List Expr → Option E
  i : Scope → Expr → Option E
  s : Scope → Expr → Expr → Option Src
section
variable (c : Cn) (r : Rec)
def nCmp (sc : Scope) (a : Expr) : List CmpOp → List Expr → Option E
  | [op], [b] => if notSet b then match r.e sc a, r.e sc b with
    | some a', some b' => some (.cmp (cCop op) a' b')
    | _, _ => none else none
  | [op, op2], [b, d] => if notSet b && notSet d then match r.e sc a, r.e sc b, r.e sc d with
    | some a', some b', some d' => some (.chain (cCop op) (cCop op2) a' b' d')
    | _, _, _ => none else none
  | _, _ => none
def nSub (sc : Scope) (a : Expr) : Expr → Option E
  | .Slice (some lo) none none _ => match r.e sc a, r.e sc lo with
    | some a', some l' => some (.slo a' l')
    | _, _ => none
  | .Slice none (some hi) none _ => match r.e sc a, r.e sc hi with
    | some a', some l' => some (.shi a' l')
    | _, _ => none
  | .Slice (some lo) (some hi) none _ => match r.e sc a, r.e sc lo, r.e sc hi with
    | some a', some l', some h' => some (.slh a' l' h')
    | _, _, _ => none
  | .Slice none none (some (.UnaryOp .USub (.Constant (.int 1) _ _) _)) _ => match r.e sc a with
    | some a' => some (.rev a')
    | _ => none
  | i => if notSlice i then match r.e sc a, r.e sc i with
    | some a', some i' => some (.idx a' i')
    | _, _ => none else none
def nTy (sc : Scope) : Expr → Option Ty
  | .Name t _ => if isGl sc t then match c.gl.lookup t with
    | some (.ty ty) => some ty
    | some (.blt .int) => some .int
    | some (.blt .tuple) => some .tuple
    | some (.blt .list) => some .list
    | _ => none else none
  | _ => none
def isLC : Expr → Bool
  | .ListComp _ _ _ _ => true
  | _ => false
def isLL : Expr → Bool
  | .ListComp _ _ _ _ | .List _ _ => true
  | _ => false
def nBlt1 (sc : Scope) (b : Blt) (a : Expr) : Option E := match b with
  | .repr => if c.top then (r.e sc a).map fun a' => .b1 .repr a' else none
  | .abs => (r.e sc a).map fun a' => .b1 .abs a'
  | .int => (r.e sc a).map fun a' => .b1 .int a'
  | .len => (r.e sc a).map fun a' => .b1 .len a'
  | .any => (r.i sc a).map fun a' => .bs .any a'
  | .all => (r.i sc a).map fun a' => .bs .all a'
  | .sum => (r.i sc a).map fun a' => .bs .sum a'
  | .max => (r.i sc a).map fun a' => .bs .max a'
  | .min => (r.i sc a).map fun a' => .bs .min a'
  | .sorted => if isLL a then (r.i sc a).map fun a' => .bs .sorted a' else (r.e sc a).map fun a' => .srt a'
  | .tuple => if isLC a then (r.i sc a).map fun a' => .bs .tuple a' else (r.e sc a).map fun a' => .bt .tuple a'
  | .list => (r.e sc a).map fun a' => .bt .list a'
  | _ => none
def nBlt2 (sc : Scope) (b : Blt) (a d : Expr) : Option E := match b with
  | .max => match r.e sc a, r.e sc d with
    | some a', some d' => some (.max2 a' d')
    | _, _ => none
  | .min => match r.e sc a, r.e sc d with
    | some a', some d' => some (.min2 a' d')
    | _, _ => none
  | .isinstance => match r.e sc a, nTy c sc d with
    | some a', some t => some (.isi a' t)
    | _, _ => none
  | _ => none
def lsArg (sc : Scope) : Expr → Option Expr
  | .Call (.Name y _) [b] [] _ => if isGl sc y && notStar b then (match c.gl.lookup y with | some (.blt .set) => some b | _ => none) else none
  | _ => none
def nCall (sc : Scope) (x : Str) (args : List Expr) : Option E :=
  if isGl sc x then match c.gl.lookup x with
    | some (.fn i) => (r.el sc args).map fun es => .call i es
    | some (.cls k) => (r.el sc args).map fun es => .new k es
    | some (.blt b) => match args with
      | [a] => if notStar a then (match (if b = .len then lsArg c sc a else none) with
        | some d => (r.e sc d).map .lset
        | none => nBlt1 c r sc b a) else none
      | [a, d] => if notStar a && notStar d then nBlt2 c r sc b a d else none
      | _ => none
    | _ => none
  else none
def nMeth (sc : Scope) (o : Expr) (m : Str) (args : List Expr) : Option E := match r.e sc o, r.el sc args with
  | some o', some es => if m = ("append" : Str) then (if args.length = 1 then some (.mth .append o' es) else none)
    else if m = ("extend" : Str) then (if args.length = 1 then some (.mth .extend o' es) else none)
    else if m = ("pop" : Str) then (if args.length = 0 then some (.mth .pop0 o' es) else none)
    else some (.meth o' m.cps.toList es)
  | _, _ => none
def nPairs (sc : Scope) : List (Option Expr) → List Expr → Option EL
  | [], [] => some .nil
  | some k :: ks, v :: vs => match r.e sc k, r.e sc v, nPairs sc ks vs with
    | some k', some v', some es => some (.cons k' (.cons v' es))
    | _, _, _ => none
  | _, _ => none
def nIfs (sc : Scope) : List Expr → Option E
  | [] => some (E.cst (.bl true))
  | [d] => r.t sc d
  | _ => none
def nLC (sc : Scope) (elt tg iter : Expr) (ifs : List Expr) (scope : Scope) : Option E :=
  match cOwn c scope.names, cTg c (clB scope) (relS scope sc) tg, r.s sc tg iter, nIfs r (relS scope sc) ifs, r.e (relS scope sc) elt with
  | some own, some t, some s, some d', some el' => if blkC c.N sc scope own && t.slots.all (fun i => (own.map (·.2)).contains i) && notSet iter then some (.comp (own.map (·.2)) t s d' el') else none
  | _, _, _, _, _ => none
def nDC (sc : Scope) (kx vx tg iter : Expr) (ifs : List Expr) (scope : Scope) : Option E :=
  match cOwn c scope.names, cTg c (clB scope) (relS scope sc) tg, r.s sc tg iter, nIfs r (relS scope sc) ifs, r.e (relS scope sc) kx, r.e (relS scope sc) vx with
  | some own, some t, some s, some d', some k', some v' => if blkC c.N sc scope own && t.slots.all (fun i => (own.map (·.2)).contains i) && notSet iter then some (.dcomp (own.map (·.2)) t s d' k' v') else none
  | _, _, _, _, _, _ => none
def nE (sc : Scope) (e : Expr) : Option E := match e with
  | .Constant v _ _ => (match v with
    | .none => some (.cst .non)
    | .bool b => some (.cst (.bl b))
    | .int i => some (.cst (.int i))
    | .str s => some (.cst (.str s.cps.toList))
    | _ => none)
  | .Name x _ => cName c sc x
  | .Tuple es _ _ => if es.length ≤ lim then (r.el sc es).map .tup else none
  | .List es _ => if es.length ≤ lim then (r.el sc es).map .lst else none
  | .BinOp a op b _ => (match cBop op, r.e sc a, r.e sc b with
    | some o, some a', some b' => some (.bop o a' b')
    | _, _, _ => none)
  | .UnaryOp op a _ => (match op with
    | .USub => (r.e sc a).map .neg
    | .Not => (r.e sc a).map .not
    | _ => none)
  | .BoolOp op vs _ => r.b sc op vs
  | .Compare a ops bs _ => nCmp r sc a ops bs
  | .IfExp t a b _ => (match r.t sc t, r.e sc a, r.e sc b with
    | some t', some a', some b' => some (.ife t' a' b')
    | _, _, _ => none)
  | .Subscript a i _ => nSub r sc a i
  | .Attribute o f _ => if c.fld.contains f.cps.toList && notCall0 o then (r.e sc o).map fun o' => .fld o' f.cps.toList else none
  | .Call (.Name x _) args [] _ => nCall c r sc x args
  | .Call (.Attribute o m apos) args [] pos => if notCall0 o && decide (args.length < 20) && (apos.endLine == pos.line) then nMeth r sc o m args else none
  | .ListComp elt gs scope pos => r.i sc (.ListComp elt gs scope pos)
  | .Dict ks vs _ => if ks.length ≤ 15 then (nPairs r sc ks vs).map .dnew else none
  | .DictComp kx vx [⟨tg, iter, ifs, 0⟩] scope _ => nDC c r sc kx vx tg iter ifs scope
  | _ => none
def nEL (sc : Scope) : List Expr → Option EL
  | [] => some .nil
  | e :: rs => if notStar e then match r.e sc e, r.el sc rs with
    | some e', some r' => some (.cons e' r')
    | _, _ => none else none
/-- values of and, or -/
def nB (sc : Scope) (op : BoolOp) : List Expr → Option E
  | [] => none
  | [e] => r.e sc e
  | e :: d :: rs => match r.e sc e, r.b sc op (d :: rs) with
    | some e', some r' => some (match op with | .And => .and e' r' | .Or => .or e' r')
    | _, _ => none
/-- tests -/
def nT (sc : Scope) (e : Expr) : Option E := match e with
  | .UnaryOp .Not a _ => (r.t sc a).map .not
  | .BoolOp op vs _ => r.bt sc op vs
  | .Compare a ops bs _ => nCmp r sc a ops bs
  | e => if isTestPlain e then match r.e sc e with
    | some e' => if plainT e' then some e' else none
    | none => none else none
def nBT (sc : Scope) (op : BoolOp) : List Expr → Option E
  | [] => none
  | [e] => r.t sc e
  | e :: d :: rs => match r.t sc e, r.bt sc op (d :: rs) with
    | some e', some r' => some (match op with | .And => .and e' r' | .Or => .or e' r')
    | _, _ => none
/-- what stands for a list's items -/
def nI (sc : Scope) (e : Expr) : Option E := match e with
  | .List es _ => if es.length ≤ lim then (r.el sc es).map .lst else none
  | .ListComp elt gs scope _ => (match gs with
    | [⟨tg, iter, ifs, 0⟩] => nLC c r sc elt tg iter ifs scope
    | _ => none)
  | e => match r.e sc e with
    | some e' => if plainI e' then some e' else none
    | none => none
def isTup : Expr → Bool
  | .Tuple _ _ _ => true
  | _ => false
inductive SK where | range | enumerate | zip | other
def sKind (sc : Scope) : Expr → SK
  | .Call (.Name x _) _ [] _ => if isGl sc x then match c.gl.lookup x with
    | some (.blt .range) => .range
    | some (.blt .enumerate) => .enumerate
    | some (.blt .zip) => .zip
    | _ => .other
    else .other
  | _ => .other
def sArgs : Expr → List Expr
  | .Call (.Name _ _) args [] _ => args
  | _ => []
/-- what is walked; tg: the target -/
def nS (sc : Scope) (tg e : Expr) : Option Src := match sKind c sc e with
  | .range => (match sArgs e with
    | [a] => if notStar a then (r.e sc a).map .rng1 else none
    | [a, b] => if notStar a && notStar b then match r.e sc a, r.e sc b with
      | some a', some b' => some (.rng2 a' b')
      | _, _ => none else none
    | _ => none)
  | .enumerate => (match sArgs e with
    | [a] => if notStar a && isTup tg then (r.e sc a).map .enum else none
    | _ => none)
  | .zip => (match sArgs e with
    | [a, b] => if notStar a && notStar b && isTup tg then match r.e sc a, r.e sc b with
      | some a', some b' => some (.zip a' b')
      | _, _ => none else none
    | _ => none)
  | .other => (r.e sc e).map .seq
def stp : Rec := ⟨nE c r, nEL r, nB r, nT r, nBT r, nI c r, nS c r⟩
def cR : Nat → Rec
  | 0 => ⟨fun _ _ => none, fun _ _ => none, fun _ _ _ => none, fun _ _ => none, fun _ _ _ => none, fun _ _ => none, fun _ _ _ => none⟩
  | n + 1 => stp c (cR n)
end
end Dl

/-! DlM: the compiler is sound for expressions. -/
namespace Dl
open PySem L2
/-- what the context knows of the globals -/
structure Facts (p : Px) (T : Tbl) (call : CallF) (lv : Nat) (c : Cn) (X : Cx) : Prop where
  fn : ∀ x i, c.gl.lookup x = some (.fn i) → ∃ f, X.mg x = some (.ref f) ∧ FnAt p call lv X f i
  cls : ∀ x k, c.gl.lookup x = some (.cls k) → X.mg x = some (.ref (p.ca k)) ∧ NewOk p T call lv X k ∧ PySem.W.keepIn X.K (.ref (p.ca k)) = true
  val : ∀ x w, c.gl.lookup x = some (.val w) → ∃ u v, X.mg x = some u ∧ RelV v u ∧ ∀ α H, RepV p α H w v
  exc : ∀ x k, c.gl.lookup x = some (.exc k) → X.mg x = some (.ref (p.xa k)) ∧ PySem.W.excIn X.K (p.xa k) [.type "ValueError", .type "Exception", .type "BaseException", .type "object"] "ValueError.__new__" = true ∧ PySem.W.keepIn X.K (.ref (p.xa k)) = true ∧ Raises X (.ref (p.xa k))
  blt : ∀ x b, c.gl.lookup x = some (.blt b) → x = b.name ∧ X.mg x = none
  ty : ∀ x t, c.gl.lookup x = some (.ty t) → x = t.name ∧ X.mg x = none ∧ t.name ≠ ""
  m : ClOk p T call lv X
  fld : ∀ f, c.fld.contains f = true → FldOk p f
  kit : KitOk X.K
structure Good (p : Px) (T : Tbl) (call : CallF) (lv : Nat) (c : Cn) (Wx : WX) (X : Cx) (sc : Scope) : Prop where
  hK : p.K = X.K
  kd : KdOk p X
  gd : c.top = true → X.A.guards = some []
  sc : X.env.scope = sc
  N : X.N = c.N
  nd : c.N.Nodup
  calm : X.calm = true
  tk : Takes X Wx
  own : PassesOwn (model X.prog X.w) X.A X.env X.xe
  room : Room (lv + 1) X.A
  fs : Facts p T call lv c X
section
variable {p : Px} {T : Tbl} {call : CallF} {lv : Nat} {c : Cn} {Wx : WX} {X : Cx} {sc : Scope}
theorem Good.hu (G : Good p T call lv c Wx X sc) : X.A.units + 64 < cLine := G.room.units
theorem Good.r0 (G : Good p T call lv c Wx X sc) : Room lv X.A := G.room.mono (Nat.le_succ _)
theorem isGl_ok (G : Good p T call lv c Wx X sc) {x : Str} (h : isGl sc x = true) : Gl X x ∧ (x == ("__debug__" : Str)) = false ∧ x ≠ ("__name__" : Str) := by
  unfold isGl at h
  simp only [Bool.and_eq_true, decide_eq_true_eq, Bool.not_eq_true'] at h
  obtain ⟨⟨a, b⟩, d⟩ := h
  refine ⟨?_, b, d⟩
  show X.env.scope.names.lookup x = _
  rw [G.sc]; exact a
theorem isVis_ok (G : Good p T call lv c Wx X sc) {x : Str} (h : isVis sc x = true) : Vis X.env.scope x ∧ (x == ("__debug__" : Str)) = false ∧ (x == ("__classdict__" : Str)) = false := by
  unfold isVis at h
  simp only [Bool.and_eq_true, Bool.not_eq_true'] at h
  obtain ⟨⟨a, b⟩, d⟩ := h
  refine ⟨?_, b, d⟩
  unfold Vis
  rw [G.sc]
  split at a
  · rename_i e; exact .inl e
  · rename_i e; exact .inr (.inl e)
  · rename_i e; exact .inr (.inr e)
  · cases a
theorem name_ok (G : Good p T call lv c Wx X sc) {x : Str} {e' : E} {pos : Pos} (h : cName c sc x = some e') : PE X (.Name x pos) (tV p Wx T call e') := by
  unfold cName at h
  split at h
  · rename_i hv
    obtain ⟨a, b, d⟩ := isVis_ok G hv
    simp only [Option.map_eq_some_iff] at h
    obtain ⟨i, hi, rfl⟩ := h
    obtain ⟨_, hi⟩ := ixOf_get hi
    exact e_var (pe_var (by rw [G.N]; simpa using hi) a b d)
  · split at h
    · rename_i hg
      obtain ⟨a, b, d⟩ := isGl_ok G hg
      split at h
      · rename_i w e
        cases h
        obtain ⟨u, v, h1, h2, h3⟩ := G.fs.val x w e
        exact e_cst (pe_glob a h1 h2 b) fun α H Q q σ => q v (h3 α H)
      · cases h
    · cases h
theorem tgN_ok (G : Good p T call lv c Wx X sc) {cl : Str → Bool} (hcl : ∀ x, cl x = true → X.fn x = true) {e : Expr} {i : Nat} (h : cTgN c cl sc e = some i) : ∃ x pos, e = .Name x pos ∧ X.N[i]? = some x ∧ Loc X.env.scope x ∧ (X.fn x = true ∨ X.env.scope.names.lookup x = some .local) := by
  cases e <;> simp only [cTgN] at h <;> try cases h
  rename_i x pos
  split at h
  · rename_i hl
    obtain ⟨_, hi⟩ := ixOf_get h
    refine ⟨x, pos, rfl, by rw [G.N]; simpa using hi, ?_⟩
    rw [G.sc]
    unfold isTg isLoc at hl
    simp only [Bool.or_eq_true, Bool.and_eq_true, decide_eq_true_eq] at hl
    rcases hl with hl | ⟨hl, hf⟩
    · exact ⟨.inl hl, .inr hl⟩
    · exact ⟨.inr hl, .inl (hcl x hf)⟩
  · cases h
theorem tg1 (G : Good p T call lv c Wx X sc) {cl : Str → Bool} (hcl : ∀ x, cl x = true → X.fn x = true) {e : Expr} {i : Nat} (h : cTgN c cl sc e = some i) : PG X e (gName i) := by
  obtain ⟨x, pos, rfl, h1, h2, h3⟩ := tgN_ok G hcl h
  exact pg_name (by rw [G.N]; exact G.nd) h1 h2 h3
theorem tgs_ok (G : Good p T call lv c Wx X sc) {cl : Str → Bool} (hcl : ∀ x, cl x = true → X.fn x = true) : ∀ {es : List Expr} {l : List Nat}, cTgs c cl sc es = some l → PGs X es (gAll l) ∧ (assignEach es X.env).length = l.length ∧ (assignEach es X.env).findIdx? (·.1) = none
  | [], l, h => by
    simp only [cTgs, Option.some.injEq] at h
    subst h
    exact ⟨pgs_nil, rfl, rfl⟩
  | e :: r, l, h => by
    simp only [cTgs] at h
    split at h
    · rename_i i l' h1 h2
      cases h
      obtain ⟨a, b, d⟩ := tgs_ok G hcl h2
      obtain ⟨x, pos, rfl, _, _⟩ := tgN_ok G hcl h1
      have e0 : assignEach (.Name x pos :: r) X.env = (false, assign (.Name x pos) X.env) :: assignEach r X.env := rfl
      refine ⟨pgs_cons (tg1 G hcl h1) a rfl, ?_, ?_⟩
      · rw [e0]; simp [b]
      · rw [e0, List.findIdx?_cons, d]; rfl
    · cases h
theorem tg_ok (G : Good p T call lv c Wx X sc) {cl : Str → Bool} (hcl : ∀ x, cl x = true → X.fn x = true) {e : Expr} {t : Tg} (h : cTg c cl sc e = some t) : PG X e (gT p.K t) := by
  cases e <;> simp only [cTg] at h <;> try cases h
  · simp only [Option.map_eq_some_iff] at h
    obtain ⟨i, hi, rfl⟩ := h
    exact tg1 G hcl hi
  · simp only [Option.map_eq_some_iff] at h
    obtain ⟨l, hl, rfl⟩ := h
    obtain ⟨a, b, d⟩ := tgs_ok G hcl hl
    have hK := G.hK
    show PG X _ (gTup p.K l.length (gAll l))
    rw [hK]
    exact pg_tup G.calm a b d
theorem own_ok : ∀ {names : List (Str × NameKind)} {own : List (Str × Nat)}, cOwn c names = some own → True := fun _ => trivial
/-- the block's context is good, too -/
theorem Good.blk (G : Good p T call lv c Wx X sc) (scope : Scope) (s : Shared) (H : Hp) (C : Addr) (cl : List (Str × Addr)) (fp : List Addr) : Good p T call lv c WF (X.blk s H scope (compEnvC scope cl C X.env) fp) (relS scope sc) where
  hK := G.hK
  kd := G.kd
  gd := G.gd
  sc := by
    have : (compEnvC scope cl C X.env).scope = relS scope X.env.scope := rfl
    rw [← G.sc]; exact this
  N := G.N
  nd := G.nd
  calm := G.calm
  tk := takes0
  own := PassesOwn.never
  room := G.room
  fs := ⟨fun x i h => let ⟨f, a, b⟩ := G.fs.fn x i h; ⟨f, a, ⟨b.ex, b.kp⟩⟩, fun x k h => let ⟨a, b, d⟩ := G.fs.cls x k h; ⟨a, ⟨b.ex, b.lt⟩, d⟩, G.fs.val, G.fs.exc, G.fs.blt, G.fs.ty, ⟨fun k cl m f h1 h2 => let ⟨a, b, d, e⟩ := G.fs.m.m k cl m f h1 h2; ⟨a, b, d, ⟨e.ex, e.kp⟩⟩⟩, G.fs.fld, G.fs.kit⟩
/-- a built-in -/
theorem b_ok (G : Good p T call lv c Wx X sc) {x : Str} {b : Blt} (hg : isGl sc x = true) (h : c.gl.lookup x = some (.blt b)) : x = b.name ∧ Gl X b.name ∧ X.mg b.name = none := by
  obtain ⟨e, m⟩ := G.fs.blt x b h
  subst e
  exact ⟨rfl, (isGl_ok G hg).1, m⟩
theorem starE {e : Expr} {env : PySem.Env} (h : notStar e = true) : starEach [e] env = [(false, eval e env)] := star_cons h
theorem notMark {op : CmpOp} {b : Expr} (h : notSet b = true) : behindInMarks op b = false := by
  cases b <;> first | rfl | (simp [notSet] at h; done)
theorem notMark2 {o o2 : CmpOp} {b d : Expr} (h : notSet d = true) : lastMarks [o, o2] [b, d] = false := by
  show behindInMarks o2 d = false
  exact notMark h
theorem plainIx {i : Expr} (h : notSlice i = true) : PlainIx i := by
  intro o v
  cases i <;> first | rfl | (simp [notSlice] at h; done)
theorem testPlain {e : Expr} {env : PySem.Env} (h : isTestPlain e = true) : ∀ whole, isTrue e env whole = (do let v ← whole; standAt e.pos; holding [v] (truthy v)) := by
  intro whole
  cases e <;> first | rfl | (simp [isTestPlain] at h; done) | skip
  rename_i op a pos
  cases op <;> first | rfl | (simp [isTestPlain] at h; done)
theorem nmS_id (f : Str) : nmS f.cps.toList = f := by
  cases f; rfl
theorem foldPlain {iter : Expr} (h : notSet iter = true) : ∀ env x, foldedSetIterable iter env x = pure x := by
  intro env x
  cases iter <;> first | rfl | (simp [notSet] at h; done)
end
end Dl

/-! DlN: expressions: the induction. -/
namespace Dl
open PySem L2
section
variable {p : Px} {T : Tbl} {call : CallF} {lv : Nat} {c : Cn}
structure Snd (p : Px) (T : Tbl) (call : CallF) (lv : Nat) (c : Cn) (r : Rec) : Prop where
  e : ∀ {Wx X sc}, Good p T call lv c Wx X sc → ∀ {e e'}, r.e sc e = some e' → PE X e (tV p Wx T call e')
  el : ∀ {Wx X sc}, Good p T call lv c Wx X sc → ∀ {es es'}, r.el sc es = some es' → PA X es (tL p Wx T call es') ∧ es.all notStar = true ∧ (es = [] → es' = .nil) ∧ ∀ {ρ g ws g'}, evl T call es' ρ g = .ok ws g' → ws.length = es.length
  b : ∀ {Wx X sc}, Good p T call lv c Wx X sc → ∀ {op vs e' pos}, r.b sc op vs = some e' → PE X (.BoolOp op vs pos) (tV p Wx T call e')
  t : ∀ {Wx X sc}, Good p T call lv c Wx X sc → ∀ {e e'}, r.t sc e = some e' → PT X e (tQ p Wx T call e')
  bt : ∀ {Wx X sc}, Good p T call lv c Wx X sc → ∀ {op vs e' pos}, r.bt sc op vs = some e' → PW X (.BoolOp op vs pos) (tQ p Wx T call e')
  i : ∀ {Wx X sc}, Good p T call lv c Wx X sc → ∀ {e e'}, r.i sc e = some e' → PE X e (tI p Wx T call e') ∧ (isLC e = true → PE X e (tV p Wx T call e'))
  s : ∀ {Wx X sc}, Good p T call lv c Wx X sc → ∀ {tg e s'}, r.s sc tg e = some s' → PI X tg e (tC p Wx T call s')
theorem oMap {α β : Type} {f : α → β} {o : Option α} {b : β} (h : o.map f = some b) : ∃ a, o = some a ∧ f a = b := Option.map_eq_some_iff.mp h
theorem snd_el {r : Rec} (ih : Snd p T call lv c r) {Wx : WX} {X : Cx} {sc : Scope} (G : Good p T call lv c Wx X sc) {es : List Expr} {es' : EL} (h : nEL r sc es = some es') :
    PA X es (tL p Wx T call es') ∧ es.all notStar = true ∧ (es = [] → es' = .nil) ∧ ∀ {ρ g ws g'}, evl T call es' ρ g = .ok ws g' → ws.length = es.length := by
  cases es with
  | nil =>
    simp only [nEL, Option.some.injEq] at h
    subst h
    refine ⟨a_nil, rfl, fun _ => rfl, ?_⟩
    intro ρ g ws g' h
    simp only [evl] at h
    cases h; rfl
  | cons e r =>
    simp only [nEL] at h
    split at h
    · rename_i hs
      split at h
      · rename_i e' r' h1 h2
        cases h
        obtain ⟨a, b, _, d⟩ := ih.el G h2
        refine ⟨a_cons (ih.e G h1) a (star_cons hs), by simp [hs, b], fun z => (by cases z), ?_⟩
        intro ρ g ws g' h
        simp only [evl] at h
        cases h3 : ev T call e' ρ g with
        | err => rw [h3] at h; cases h
        | exc _ _ => rw [h3] at h; cases h
        | ok x g1 =>
          rw [h3] at h
          simp only [R.bind] at h
          cases h4 : evl T call r' ρ g1 with
          | err => rw [h4] at h; cases h
          | exc _ _ => rw [h4] at h; cases h
          | ok xs g2 =>
            rw [h4] at h
            cases h
            simp [d h4]
      · cases h
    · cases h
theorem snd_b {r : Rec} (ih : Snd p T call lv c r) {Wx : WX} {X : Cx} {sc : Scope} (G : Good p T call lv c Wx X sc) {op : BoolOp} {vs : List Expr} {e' : E} {pos : Pos} (h : nB r sc op vs = some e') : PE X (.BoolOp op vs pos) (tV p Wx T call e') := by
  unfold nB at h
  split at h
  · cases h
  · exact pe_one (ih.e G h)
  · split at h
    · rename_i h1 h2
      cases h
      cases op with
      | And => exact e_and (ih.e G h1) (ih.b G h2)
      | Or => exact e_or (ih.e G h1) (ih.b G h2)
    · cases h
theorem snd_bt {r : Rec} (ih : Snd p T call lv c r) {Wx : WX} {X : Cx} {sc : Scope} (G : Good p T call lv c Wx X sc) {op : BoolOp} {vs : List Expr} {e' : E} {pos : Pos} (h : nBT r sc op vs = some e') : PW X (.BoolOp op vs pos) (tQ p Wx T call e') := by
  unfold nBT at h
  split at h
  · cases h
  · cases op with
    | And => exact pw_and1 (ih.t G h)
    | Or => exact pw_or1 (ih.t G h)
  · split at h
    · rename_i h1 h2
      cases h
      cases op with
      | And => exact t_and (ih.t G h1) (ih.bt G h2)
      | Or => exact t_or (ih.t G h1) (ih.bt G h2)
    · cases h
theorem snd_cmp {r : Rec} (ih : Snd p T call lv c r) {Wx : WX} {X : Cx} {sc : Scope} (G : Good p T call lv c Wx X sc) {a b : Expr} {a' b' : E} {op : CmpOp} {pos : Pos} (h1 : r.e sc a = some a') (h2 : r.e sc b = some b') (hb : notSet b = true) :
    PE X (.Compare a [op] [b] pos) (tV p Wx T call (.cmp (cCop op) a' b')) ∧ PT X (.Compare a [op] [b] pos) (tQ p Wx T call (.cmp (cCop op) a' b')) := by
  have k1 := e_cmp (o := cCop op) (pos := pos) G.hK G.kd G.hu (ih.e G h1) (ih.e G h2) (notMark hb)
  have k2 := t_cmp (o := cCop op) (pos := pos) G.hK G.kd G.hu (ih.e G h1) (ih.e G h2) (notMark hb)
  rw [cCop_ok] at k1 k2
  exact ⟨k1, k2⟩
theorem snd_chain {r : Rec} (ih : Snd p T call lv c r) {Wx : WX} {X : Cx} {sc : Scope} (G : Good p T call lv c Wx X sc) {a b d : Expr} {a' b' d' : E} {op op2 : CmpOp} {pos : Pos} (h1 : r.e sc a = some a') (h2 : r.e sc b = some b') (h3 : r.e sc d = some d') (hd : notSet d = true) :
    PE X (.Compare a [op, op2] [b, d] pos) (tV p Wx T call (.chain (cCop op) (cCop op2) a' b' d')) ∧ PT X (.Compare a [op, op2] [b, d] pos) (tQ p Wx T call (.chain (cCop op) (cCop op2) a' b' d')) := by
  have k1 := e_chain (o := cCop op) (o' := cCop op2) (pos := pos) G.hK G.kd G.hu (ih.e G h1) (ih.e G h2) (ih.e G h3) (notMark2 hd)
  have k2 := t_chain (o := cCop op) (o' := cCop op2) (pos := pos) G.hK G.kd G.hu (ih.e G h1) (ih.e G h2) (ih.e G h3) (notMark2 hd)
  rw [cCop_ok, cCop_ok] at k1 k2
  exact ⟨k1, k2⟩
theorem snd_c {r : Rec} (ih : Snd p T call lv c r) {Wx : WX} {X : Cx} {sc : Scope} (G : Good p T call lv c Wx X sc) {a : Expr} {ops : List CmpOp} {bs : List Expr} {e' : E} {pos : Pos} (h : nCmp r sc a ops bs = some e') :
    PE X (.Compare a ops bs pos) (tV p Wx T call e') ∧ PT X (.Compare a ops bs pos) (tQ p Wx T call e') := by
  unfold nCmp at h
  split at h
  · split at h
    · rename_i hb
      split at h
      · rename_i h1 h2; cases h; exact snd_cmp ih G h1 h2 hb
      · cases h
    · cases h
  · split at h
    · rename_i hb
      simp only [Bool.and_eq_true] at hb
      split at h
      · rename_i h1 h2 h3; cases h; exact snd_chain ih G h1 h2 h3 hb.2
      · cases h
    · cases h
  · cases h
theorem snd_t {r : Rec} (ih : Snd p T call lv c r) {Wx : WX} {X : Cx} {sc : Scope} (G : Good p T call lv c Wx X sc) {e : Expr} {e' : E} (h : nT r sc e = some e') : PT X e (tQ p Wx T call e') := by
  unfold nT at h
  split at h
  · obtain ⟨a, h1, rfl⟩ := oMap h
    exact t_not (ih.t G h1)
  · exact (ih.bt G h).pt
  · exact (snd_c ih G h).2
  · split at h
    · rename_i hp
      split at h
      · rename_i e1 he
        split at h
        · rename_i hq
          cases h
          exact t_truth G.hK hq (ih.e G he) (testPlain hp)
        · cases h
      · cases h
    · cases h
theorem ev_comp {vs : List Nat} {t : Tg} {s : Src} {d el : E} (ρ : Env) (g : G) : ev T call (.comp vs t s d el) ρ g = (its T call (.comp vs t s d el) ρ g).bind fun ws g2 => .ok (.ref g2.length) (g2 ++ [.lst ws]) := by
  simp only [ev, its]
  cases src T call s ρ g with
  | ok cur g1 => cases cur <;> rfl
  | exc _ _ => rfl
  | err => rfl
theorem snd_comp {r : Rec} (ih : Snd p T call lv c r) {Wx : WX} {X : Cx} {sc : Scope} (G : Good p T call lv c Wx X sc) {elt tg iter : Expr} {ifs : List Expr} {scope : Scope} {pos : Pos} {own : List (Str × Nat)} {t : Tg} {s : Src} {d el : E}
    (h2 : cTg c (clB scope) (relS scope sc) tg = some t) (h3 : r.s sc tg iter = some s) (h4 : nIfs r (relS scope sc) ifs = some d) (h5 : r.e (relS scope sc) elt = some el) (hb : blkC c.N sc scope own = true) (ht : t.slots.all (fun i => (own.map (·.2)).contains i) = true) (hi : notSet iter = true) :
    PE X (.ListComp elt [⟨tg, iter, ifs, 0⟩] scope pos) (tN p Wx (its T call (.comp (own.map (·.2)) t s d el))) := by
  refine comp_core G.hK ?_ fun i hm => by simpa using List.all_eq_true.mp ht i hm
  rintro wi g tt te rfl rfl rfl rfl
  have hK := G.hK
  refine pe_lc G.calm (by rw [G.N]; exact G.nd) (ih.s G h3) (by rw [G.N, G.sc]; exact blkOk_by hb) (fun s H C cl fp => ?_) (fun s H C cl fp => ?_) (fun s H C cl fp => ?_) (foldPlain hi _)
  · exact tg_ok (cl := clB scope) (G.blk scope s H C cl fp) (fun x hx => hx) h2
  · unfold nIfs at h4
    split at h4
    · cases h4
      refine ⟨fun pins s σ H Q I ⟨α, ρ, g, S, E, q⟩ => pts_nil.run pins s σ H Q I ?_⟩
      simp only [tst, ev, R.bind, R.of, truthW] at q
      exact post.ok q S rfl
    · exact pts_one (ih.t (G.blk scope s H C cl fp) h4)
    · cases h4
  · exact ih.e (G.blk scope s H C cl fp) h5
theorem snd_i {r : Rec} (ih : Snd p T call lv c r) {Wx : WX} {X : Cx} {sc : Scope} (G : Good p T call lv c Wx X sc) {e : Expr} {e' : E} (h : nI c r sc e = some e') :
    PE X e (tI p Wx T call e') ∧ (isLC e = true → PE X e (tV p Wx T call e')) := by
  unfold nI at h
  split at h
  · split at h
    · rename_i hl
      obtain ⟨es', h1, rfl⟩ := oMap h
      obtain ⟨a, b, _, d⟩ := ih.el G h1
      exact ⟨items_of (i_lst a hl d), fun z => (by cases z)⟩
    · cases h
  · split at h
    · rename_i elt _ scope pos _ tg iter ifs
      unfold nLC at h
      split at h
      · rename_i own t s d el h1 h2 h3 h4 h5
        split at h
        · rename_i hc
          simp only [Bool.and_eq_true] at hc
          obtain ⟨⟨hb, ht⟩, hi⟩ := hc
          cases h
          have k := snd_comp (pos := pos) ih G h2 h3 h4 h5 hb ht hi
          refine ⟨items_of k, fun _ => ?_⟩
          have k2 := alloc_of k
          have : (fun ρ g => (its T call (.comp (own.map (·.2)) t s d el) ρ g).bind fun ws g2 => R.ok (W.ref g2.length) (g2 ++ [Ob.lst ws])) = ev T call (.comp (own.map (·.2)) t s d el) := by
            funext ρ g
            rw [ev_comp]
          rw [this] at k2
          exact k2
        · cases h
      · cases h
    · cases h
  · split at h
    · rename_i e1 he
      split at h
      · rename_i hp
        cases h
        exact ⟨i_plain hp (ih.e G he), fun _ => ih.e G he⟩
      · cases h
    · cases h
theorem one_arg {r : Rec} (ih : Snd p T call lv c r) {Wx : WX} {X : Cx} {sc : Scope} (G : Good p T call lv c Wx X sc) {a : Expr} {a' : E} (h : r.e sc a = some a') (hs : notStar a = true) : PA X [a] (tL p Wx T call (.cons a' .nil)) := a_cons (ih.e G h) a_nil (star_cons hs)
theorem two_arg {r : Rec} (ih : Snd p T call lv c r) {Wx : WX} {X : Cx} {sc : Scope} (G : Good p T call lv c Wx X sc) {a b : Expr} {a' b' : E} (h : r.e sc a = some a') (h2 : r.e sc b = some b') (hs : notStar a = true) (hs2 : notStar b = true) : PA X [a, b] (tL p Wx T call (.cons a' (.cons b' .nil))) :=
  a_cons (ih.e G h) (one_arg ih G h2 hs2) (star_cons hs)
theorem isTup_ok {e : Expr} (h : isTup e = true) : ∃ es k q, e = .Tuple es k q := by
  cases e <;> simp [isTup] at h
  exact ⟨_, _, _, rfl⟩
theorem sKind_ok {Wx : WX} {X : Cx} {sc : Scope} (G : Good p T call lv c Wx X sc) {e : Expr} {b : Blt} {k : SK} (h : sKind c sc e = k) (hk : (k = .range ∧ b = .range) ∨ (k = .enumerate ∧ b = .enumerate) ∨ (k = .zip ∧ b = .zip)) : ∃ q pos, e = .Call (.Name b.name q) (sArgs e) [] pos ∧ Gl X b.name ∧ X.mg b.name = none := by
  unfold sKind at h
  split at h
  · rename_i x q args pos
    split at h
    · rename_i hg
      split at h
      · rename_i hl
        subst h
        rcases hk with ⟨_, rfl⟩ | ⟨e, _⟩ | ⟨e, _⟩
        · obtain ⟨rfl, g1, m1⟩ := b_ok G hg hl
          exact ⟨q, pos, rfl, g1, m1⟩
        · cases e
        · cases e
      · rename_i hl
        subst h
        rcases hk with ⟨e, _⟩ | ⟨_, rfl⟩ | ⟨e, _⟩
        · cases e
        · obtain ⟨rfl, g1, m1⟩ := b_ok G hg hl
          exact ⟨q, pos, rfl, g1, m1⟩
        · cases e
      · rename_i hl
        subst h
        rcases hk with ⟨e, _⟩ | ⟨e, _⟩ | ⟨_, rfl⟩
        · cases e
        · cases e
        · obtain ⟨rfl, g1, m1⟩ := b_ok G hg hl
          exact ⟨q, pos, rfl, g1, m1⟩
      · subst h
        rcases hk with ⟨e, _⟩ | ⟨e, _⟩ | ⟨e, _⟩ <;> cases e
    · subst h
      rcases hk with ⟨e, _⟩ | ⟨e, _⟩ | ⟨e, _⟩ <;> cases e
  · subst h
    rcases hk with ⟨e, _⟩ | ⟨e, _⟩ | ⟨e, _⟩ <;> cases e
theorem snd_s {r : Rec} (ih : Snd p T call lv c r) {Wx : WX} {X : Cx} {sc : Scope} (G : Good p T call lv c Wx X sc) {tg e : Expr} {s' : Src} (h : nS c r sc tg e = some s') : PI X tg e (tC p Wx T call s') := by
  unfold nS at h
  split at h
  · rename_i hk
    obtain ⟨q, pos, e1, g1, m1⟩ := sKind_ok (b := .range) G hk (.inl ⟨rfl, rfl⟩)
    rw [e1]
    split at h
    · rename_i a ea
      rw [ea]
      split at h
      · rename_i hs
        obtain ⟨a', h1, rfl⟩ := oMap h
        exact s_rng1 g1 m1 (one_arg ih G h1 hs) (starE hs)
      · cases h
    · rename_i a b ea
      rw [ea]
      split at h
      · rename_i hs
        simp only [Bool.and_eq_true] at hs
        split at h
        · rename_i h1 h2
          cases h
          exact s_rng2 g1 m1 (two_arg ih G h1 h2 hs.1 hs.2) (by rw [star_cons hs.1, starE hs.2]) (starE hs.2)
        · cases h
      · cases h
    · cases h
  · rename_i hk
    obtain ⟨q, pos, e1, g1, m1⟩ := sKind_ok (b := .enumerate) G hk (.inr (.inl ⟨rfl, rfl⟩))
    rw [e1]
    split at h
    · rename_i a ea
      rw [ea]
      split at h
      · rename_i hs
        simp only [Bool.and_eq_true] at hs
        obtain ⟨es, k, tq, rfl⟩ := isTup_ok hs.2
        obtain ⟨a', h1, rfl⟩ := oMap h
        exact s_enum G.hK g1 m1 (one_arg ih G h1 hs.1) (starE hs.1)
      · cases h
    · cases h
  · rename_i hk
    obtain ⟨q, pos, e1, g1, m1⟩ := sKind_ok (b := .zip) G hk (.inr (.inr ⟨rfl, rfl⟩))
    rw [e1]
    split at h
    · rename_i a b ea
      rw [ea]
      split at h
      · rename_i hs
        simp only [Bool.and_eq_true] at hs
        obtain ⟨es, k, tq, rfl⟩ := isTup_ok hs.2
        split at h
        · rename_i h1 h2
          cases h
          exact s_zip G.hK g1 m1 (two_arg ih G h1 h2 hs.1.1 hs.1.2) (star_cons hs.1.1) (back_any (star_all (by simp [hs.1.2])))
        · cases h
      · cases h
    · cases h
  · obtain ⟨a', h1, rfl⟩ := oMap h
    exact s_seq G.hK (ih.e G h1)
/-! ### calls -/
theorem snd_blt1 {r : Rec} (ih : Snd p T call lv c r) {Wx : WX} {X : Cx} {sc : Scope} (G : Good p T call lv c Wx X sc) {b : Blt} {a : Expr} {e' : E} {q pos : Pos} (hg : Gl X b.name) (hm : X.mg b.name = none) (hs : notStar a = true) (h : nBlt1 c r sc b a = some e') : PE X (.Call (.Name b.name q) [a] [] pos) (tV p Wx T call e') := by
  have na : starEach [a] X.env = (false, eval a X.env) :: starEach [] X.env := star_cons hs
  have i1 : ∀ {a' : E}, r.i sc a = some a' → PA X [a] (tCons (tI p Wx T call a') tNil) := fun h1 => pa_cons (ih.i G h1).1 pa_nil na
  have e1 : ∀ {a' : E}, r.e sc a = some a' → PA X [a] (tCons (tV p Wx T call a') tNil) := fun h1 => pa_cons (ih.e G h1) pa_nil na
  have hK := G.hK
  have hc := G.calm
  unfold nBlt1 at h
  split at h
  · split at h
    · rename_i ht
      obtain ⟨a', h1, rfl⟩ := oMap h
      refine e_b1 (a := a) (fun x H Q => ∃ a d, [x] = [V.ref a] ∧ Dp X.K H (.ref a) d ∧ d.showable = true ∧ d.hasDict = false ∧ d.depth ≤ 60 ∧ d.shown.length ≤ sizeLine ∧ Q (.str d.shown) H) (pe_callB (call_reprD (G.gd ht) G.hu) hg hm rfl (e1 h1) (by decide) (by decide) na rfl) ?_
      intro α H g w v k Q S R1 e q
      obtain ⟨a, d, rfl, h1, h2, h3, h4, h5, rfl⟩ := run_repr hK S R1 e
      exact ⟨a, d, rfl, h1, h2, h3, h4, h5, q _ (by simp only [RepV])⟩
    · cases h
  · obtain ⟨a', h1, rfl⟩ := oMap h
    refine e_b1 (a := a) (fun x H Q => ∃ i : Int, [x] = [V.int i] ∧ Q (.int (if i < 0 then -i else i)) H) (pe_callB call_abs hg hm rfl (e1 h1) (by decide) (by decide) na rfl) ?_
    intro α H g w v k Q S R1 e q
    obtain ⟨i, rfl, rfl⟩ := run_abs R1 e
    exact ⟨i, rfl, q _ .int⟩
  · obtain ⟨a', h1, rfl⟩ := oMap h
    refine e_b1 (a := a) (fun x H Q => (∃ i : Int, [x] = [V.int i] ∧ Q (.int i) H) ∨ ∃ k : Bool, [x] = [V.bl k] ∧ Q (.int (if k then 1 else 0)) H) (pe_callTy call_int1 hg hm rfl (e1 h1) (by decide) (by decide) na rfl) ?_
    intro α H g w v k Q S R1 e q
    rcases run_int1 R1 e with ⟨i, rfl, rfl⟩ | ⟨i, rfl, rfl⟩
    · exact .inl ⟨i, rfl, q _ .int⟩
    · exact .inr ⟨i, rfl, q _ .int⟩
  · obtain ⟨a', h1, rfl⟩ := oMap h
    refine e_b1 (a := a) (fun y H Q => ∃ x, [y] = [x] ∧ ((∃ n, LenV X.K x H n ∧ Q (.int n) H) ∨ ∃ a kvs, x = .ref a ∧ Rd H a (.dK kvs) ∧ Q (.int kvs.length) H)) (pe_callB (call_lenA hK) hg hm rfl (e1 h1) (by decide) (by decide) na rfl) ?_
    intro α H g w v k Q S R1 e q
    rcases run_len hK S R1 e with ⟨n, l, rfl⟩ | ⟨a, kvs, rfl, l, rfl⟩
    · exact ⟨v, rfl, .inl ⟨n, l, q _ .int⟩⟩
    · exact ⟨_, rfl, .inr ⟨a, kvs, rfl, l, q _ .int⟩⟩
  · obtain ⟨a', h1, rfl⟩ := oMap h
    exact e_bs (a := a) _ (pe_callB (cr_any hc) hg hm rfl (i1 h1) (by decide) (by decide) na rfl) fun α H g D vs ws σ Q S L rs q => bs_any hK S L rs q
  · obtain ⟨a', h1, rfl⟩ := oMap h
    exact e_bs (a := a) _ (pe_callB (cr_all hc) hg hm rfl (i1 h1) (by decide) (by decide) na rfl) fun α H g D vs ws σ Q S L rs q => bs_all hK S L rs q
  · obtain ⟨a', h1, rfl⟩ := oMap h
    exact e_bs (a := a) _ (pe_callB (cr_sum hc) hg hm rfl (i1 h1) (by decide) (by decide) na rfl) fun α H g D vs ws σ Q S L rs q => bs_sum hK S L rs q
  · obtain ⟨a', h1, rfl⟩ := oMap h
    exact e_bs (a := a) _ (pe_callB (cr_max hc) hg hm rfl (i1 h1) (by decide) (by decide) na rfl) fun α H g D vs ws σ Q S L rs q => bs_max hK S L rs q
  · obtain ⟨a', h1, rfl⟩ := oMap h
    exact e_bs (a := a) _ (pe_callB (cr_min hc) hg hm rfl (i1 h1) (by decide) (by decide) na rfl) fun α H g D vs ws σ Q S L rs q => bs_min hK S L rs q
  · split at h
    · obtain ⟨a', h1, rfl⟩ := oMap h
      exact e_bs (a := a) _ (pe_callB cr_sorted hg hm rfl (i1 h1) (by decide) (by decide) na rfl) fun α H g D vs ws σ Q S L rs q => bs_sorted hK S L rs q
    · obtain ⟨a', h1, rfl⟩ := oMap h
      exact e_srt hK (pe_callB cr_sorted hg hm rfl (e1 h1) (by decide) (by decide) na rfl) (pe_callB (call_sortedDI hc) hg hm rfl (e1 h1) (by decide) (by decide) na rfl)
  · split at h
    · obtain ⟨a', h1, rfl⟩ := oMap h
      exact e_bs (a := a) _ (pe_callTy call_tuple_of hg hm rfl (i1 h1) (by decide) (by decide) na rfl) fun α H g D vs ws σ Q S L rs q => bs_tuple hK S L rs q
    · obtain ⟨a', h1, rfl⟩ := oMap h
      exact e_bt_tuple (a := a) hK (pe_callTy call_tuple_of hg hm rfl (e1 h1) (by decide) (by decide) na rfl)
  · obtain ⟨a', h1, rfl⟩ := oMap h
    exact e_bt_list (a := a) hK (pe_callTy call_list_of hg hm rfl (e1 h1) (by decide) (by decide) na rfl)
  · cases h
theorem nTy_ok {Wx : WX} {X : Cx} {sc : Scope} (G : Good p T call lv c Wx X sc) {e : Expr} {t : Ty} (h : nTy c sc e = some t) : PE X e (L2.tC (.ty t.name)) ∧ t.name ≠ "" ∧ notStar e = true := by
  have fin : ∀ {x : Str} {pos : Pos} {t : Ty}, isGl sc x = true → x = t.name → X.mg x = none → t.name ≠ "" → PE X (.Name x pos) (L2.tC (.ty t.name)) ∧ t.name ≠ "" ∧ notStar (.Name x pos) = true := by
    rintro x pos t hg rfl m n
    obtain ⟨a, b, d⟩ := isGl_ok G hg
    refine ⟨pe_bltn (u := .type t.name) a m ?_ rfl d b, n, rfl⟩
    cases t <;> first | rfl | exact (n rfl).elim
  unfold nTy at h
  split at h
  · split at h
    · rename_i hg
      split at h
      · rename_i hl
        cases h
        obtain ⟨e, m, n⟩ := G.fs.ty _ _ hl
        exact fin hg e m n
      · rename_i hl
        cases h
        obtain ⟨e, m⟩ := G.fs.blt _ _ hl
        exact fin hg e m (by decide)
      · rename_i hl
        cases h
        obtain ⟨e, m⟩ := G.fs.blt _ _ hl
        exact fin hg e m (by decide)
      · rename_i hl
        cases h
        obtain ⟨e, m⟩ := G.fs.blt _ _ hl
        exact fin hg e m (by decide)
      · cases h
    · cases h
  · cases h
theorem e_isi {X : Cx} {Wx : WX} {e : Expr} {a' : E} {t : Ty} (hK : p.K = X.K) (kk : KitOk X.K) (hd : PE X e (tCB (rIsi X.K) (tCons (tV p Wx T call a') (tCons (L2.tC (.ty t.name)) tNil)))) : PE X e (tV p Wx T call (.isi a' t)) :=
  PE.by fun σ H Q ⟨α, ρ, g, S, E, q⟩ => by
    refine ⟨_, hd, α, ρ, g, S, E, ?_⟩
    simp only [ev] at q
    refine (post.bind (Rq := RepV p) q).imp fun x H1 _ ⟨α1, g1, w, K1, S1, rx, q1⟩ => ?_
    obtain ⟨k, e1, q2⟩ := post.of q1
    obtain ⟨b, e2, rfl⟩ := oMap e1
    obtain ⟨tv, h1, h2⟩ := isTy_rep hK kk S1 rx e2
    exact ⟨x, .ty t.name, tv, .type t.name, b, rfl, .ty _, h1, h2, post.ok q2 S1 .bl⟩
theorem snd_blt2 {r : Rec} (ih : Snd p T call lv c r) {Wx : WX} {X : Cx} {sc : Scope} (G : Good p T call lv c Wx X sc) {b : Blt} {a d : Expr} {e' : E} {q pos : Pos} (hg : Gl X b.name) (hm : X.mg b.name = none) (hs : notStar a = true) (hs2 : notStar d = true) (h : nBlt2 c r sc b a d = some e') : PE X (.Call (.Name b.name q) [a, d] [] pos) (tV p Wx T call e') := by
  have na : starEach [a, d] X.env = (false, eval a X.env) :: starEach [d] X.env := star_cons hs
  have nb : (backTo pos (starEach [d] X.env)).any (·.1) = false := back_any (star_all (by simp [hs2]))
  have hK := G.hK
  have hc := G.calm
  unfold nBlt2 at h
  split at h
  · split at h
    · rename_i h1 h2
      cases h
      exact e_max2 (es := []) (pe_callB (call_max2 hc) hg hm rfl (two_arg ih G h1 h2 hs hs2) (by decide) (by decide) na nb)
    · cases h
  · split at h
    · rename_i h1 h2
      cases h
      exact e_min2 (pe_callB (call_min2 hc) hg hm rfl (two_arg ih G h1 h2 hs hs2) (by decide) (by decide) na nb)
    · cases h
  · split at h
    · rename_i h1 h2
      cases h
      obtain ⟨k1, _, k3⟩ := nTy_ok G h2
      exact e_isi hK G.fs.kit (pe_callB call_isi hg hm rfl (pa_cons (ih.e G h1) (pa_cons k1 pa_nil (star_cons hs2)) na) (by decide) (by decide) na nb)
    · cases h
  · cases h
theorem lsArg_ok {sc : Scope} {a b : Expr} (h : lsArg c sc a = some b) : ∃ y py p2, a = .Call (.Name y py) [b] [] p2 ∧ isGl sc y = true ∧ c.gl.lookup y = some (.blt .set) ∧ notStar b = true := by
  unfold lsArg at h
  split at h
  · rename_i y py b' p2
    split at h
    · rename_i hc
      simp only [Bool.and_eq_true] at hc
      split at h
      · rename_i e
        cases h
        exact ⟨y, py, p2, rfl, hc.1, e, hc.2⟩
      · cases h
    · cases h
  · cases h
theorem snd_call {r : Rec} (ih : Snd p T call lv c r) {Wx : WX} {X : Cx} {sc : Scope} (G : Good p T call lv c Wx X sc) {x : Str} {args : List Expr} {e' : E} {q pos : Pos} (h : nCall c r sc x args = some e') : PE X (.Call (.Name x q) args [] pos) (tV p Wx T call e') := by
  unfold nCall at h
  split at h
  · rename_i hg
    obtain ⟨g1, g2, g3⟩ := isGl_ok G hg
    split at h
    · rename_i i hl
      obtain ⟨es, h1, rfl⟩ := oMap h
      obtain ⟨a, b, d, _⟩ := ih.el G h1
      obtain ⟨f, m, F⟩ := G.fs.fn _ _ hl
      exact e_call F G.r0 G.tk g1 m a d b g2
    · rename_i k hl
      obtain ⟨es, h1, rfl⟩ := oMap h
      obtain ⟨a, b, d, _⟩ := ih.el G h1
      obtain ⟨m, N, kp⟩ := G.fs.cls _ _ hl
      exact e_new N kp G.room G.tk g1 m a d b g2
    · rename_i b hl
      obtain ⟨rfl, k1, k2⟩ := b_ok G hg hl
      split at h
      · split at h
        · rename_i hs
          split at h
          · rename_i d hd
            split at hd
            · rename_i hb
              subst hb
              obtain ⟨a', h1, rfl⟩ := oMap h
              obtain ⟨y, py, p2, rfl, hg2, hl2, hs2⟩ := lsArg_ok hd
              obtain ⟨rfl, k3, k4⟩ := b_ok G hg2 hl2
              exact e_lset G.hK (pe_lenTx G.calm k1 k2 k3 k4 (ih.e G h1) (star_cons hs2))
            · cases hd
          · exact snd_blt1 ih G k1 k2 hs h
        · cases h
      · split at h
        · rename_i hs
          simp only [Bool.and_eq_true] at hs
          exact snd_blt2 ih G k1 k2 hs.1 hs.2 h
        · cases h
      · cases h
    · cases h
  · cases h
theorem snd_meth {r : Rec} (ih : Snd p T call lv c r) {Wx : WX} {X : Cx} {sc : Scope} (G : Good p T call lv c Wx X sc) {o : Expr} {m : Str} {args : List Expr} {e' : E} {apos pos : Pos} (h : nMeth r sc o m args = some e') (ho : notCall0 o = true) (hl : args.length < 20) (hline : (apos.endLine == pos.line) = true) : PE X (.Call (.Attribute o m apos) args [] pos) (tV p Wx T call e') := by
  unfold nMeth at h
  split at h
  · rename_i o' es h1 h2
    obtain ⟨a, b, d, _⟩ := ih.el G h2
    have hK := G.hK
    have one : ∀ {nm id : String} {rr : V → List V → Hp → VK → Prop} {mm : M}, Slot "list" nm id → typeOf (.builtin id) = pure (.type "method_descriptor") → MtR X id rr → m = (nm : Str) → args.length = 1 → mm ≠ .get →
        (∀ α H g i a ws vs σ Q, Sim p α g H → α[i]? = some a → RepVs p α H ws vs → post p Wx (RepV p) (mm.runL i ws g) α H σ Q → rr (.ref a) vs H Q) → PE X (.Call (.Attribute o m apos) args [] pos) (tV p Wx T call (.mth mm o' es)) := by
      intro nm id rr mm sl ty mt em ha hm hr
      subst em
      cases args with
      | nil => simp at ha
      | cons z zs =>
        have b' := b
        simp only [List.all_cons, Bool.and_eq_true] at b'
        refine PE.by fun σ H Q ⟨α, ρ, g, S, E, q⟩ => m_list (o := o) (t := tL p Wx T call es) rr (pe_bm PySem.F.plainAttrs_list sl ty mt (ih.e G h1) a (attr_base ho) ?_ hline (star_cons b'.1) (back_any (star_all b'.2))) hK hr S E q hm
        rw [back_all (star_all b), ha]
        rfl
    split at h
    · rename_i em
      split at h
      · rename_i ha
        cases h
        exact one PySem.F.slot_list_append PySem.F.type_list_append mt_append em ha (by decide) fun α H g i a ws vs σ Q S ea rs q => ml_append S ea rs q
      · cases h
    · split at h
      · rename_i em
        split at h
        · rename_i ha
          cases h
          exact one PySem.F.slot_list_extend PySem.F.type_list_extend mt_extend em ha (by decide) fun α H g i a ws vs σ Q S ea rs q => ml_extend S ea rs q
        · cases h
      · split at h
        · rename_i em
          subst em
          split at h
          · rename_i ha
            cases h
            have := List.length_eq_zero_iff.mp ha
            subst this
            have := d rfl
            subst this
            exact m_list0 (o := o) rPop (pe_bm0 PySem.F.plainAttrs_list PySem.F.slot_list_pop PySem.F.type_list_pop mt_pop (ih.e G h1) (attr_base ho) hline) hK (fun α H g i a ws vs σ Q S ea rs q => ml_pop0 S ea rs q) (by decide)
          · cases h
        · cases h
          have k := e_meth (m := m.cps.toList) (apos := apos) (pos := pos) G.fs.m G.r0 G.tk (ih.e G h1) a d b ho hl hline
          rw [nmS_id] at k
          exact k
  · cases h
theorem snd_sub {r : Rec} (ih : Snd p T call lv c r) {Wx : WX} {X : Cx} {sc : Scope} (G : Good p T call lv c Wx X sc) {a i : Expr} {e' : E} {pos : Pos} (h : nSub r sc a i = some e') : PE X (.Subscript a i pos) (tV p Wx T call e') := by
  unfold nSub at h
  split at h
  · split at h
    · rename_i h1 h2
      cases h
      exact e_slo G.hK (ih.e G h1) (ih.e G h2)
    · cases h
  · split at h
    · rename_i h1 h2
      cases h
      exact e_shi G.hK (ih.e G h1) (ih.e G h2)
    · cases h
  · split at h
    · rename_i h1 h2 h3
      cases h
      exact e_slh G.hK (ih.e G h1) (ih.e G h2) (ih.e G h3)
    · cases h
  · split at h
    · rename_i h1
      cases h
      exact e_rev G.hK (ih.e G h1)
    · cases h
  · split at h
    · rename_i hs
      split at h
      · rename_i h1 h2
        cases h
        exact e_idx G.hK G.kd G.hu (ih.e G h1) (ih.e G h2) (plainIx hs)
      · cases h
    · cases h
def flatP : List (V × V) → List V
  | [] => []
  | (a, b) :: r => a :: b :: flatP r
inductive Prs (p : Px) (Wx : WX) (T : Tbl) (call : CallF) : EL → List (TE × TE) → Prop where
  | nil : Prs p Wx T call .nil []
  | cons {k v : E} {es : EL} {trs : List (TE × TE)} (h : Prs p Wx T call es trs) : Prs p Wx T call (.cons k (.cons v es)) ((tV p Wx T call k, tV p Wx T call v) :: trs)
theorem R.bind_assoc {α β γ : Type} (r : R α) (f : α → G → R β) (k : β → G → R γ) : (r.bind f).bind k = r.bind fun a g => (f a g).bind k := by
  cases r <;> rfl
theorem prs_go {Wx : WX} {es : EL} {trs : List (TE × TE)} (P : Prs p Wx T call es trs) : ∀ {α : List Addr} {ρ : Env} {g : G} {H : Hp} {σ : St} {Q : List (V × V) → Hp → Prop}, Sim p α g H → SimSt p α H ρ σ →
    post p Wx (RepVs p) (evl T call es ρ g) α H σ (fun xs H' => ∀ ps, flatP ps = xs → Q ps H') → tPairs trs σ H Q := by
  induction P with
  | nil =>
    intro α ρ g H σ Q S E q
    simp only [evl] at q
    exact post.ok q S .nil [] rfl
  | cons h ih =>
    intro α ρ g H σ Q S E q
    refine ⟨α, ρ, g, S, E, ?_⟩
    simp only [evl] at q
    refine (post.bind (Rq := RepV p) q).imp fun x H1 _ ⟨α1, g1, w, K1, S1, r, q1⟩ => ⟨α1, ρ, g1, S1, E.mono K1, ?_⟩
    rw [R.bind_assoc] at q1
    refine (post.bind (Rq := RepV p) q1).imp fun y H2 _ ⟨α2, g2, w2, K2, S2, r2, q2⟩ => ?_
    rw [R.bind_assoc] at q2
    refine ih S2 ((E.mono K1).mono K2) ((post.bind (Rq := RepVs p) q2).imp fun xs H3 _ ⟨α3, g3, ws, K3, S3, rs, q3⟩ ps e => ?_)
    simp only [R.bind] at q3
    exact post.ok q3 S3 (.cons ((r.mono K2).mono K3) (.cons (r2.mono K3) rs)) ((x, y) :: ps) (by simp [flatP, e])
theorem pairs_rep {α : List Addr} {H : Hp} : ∀ {ps : List (V × V)} {ws : List W} {pw : List (W × W)}, pairW ws = some pw → (pw.all fun kv => fits [] kv.1) = true → RepVs p α H ws (flatP ps) →
    ∃ kvs : List (Key × V), ps = kvs.map (fun kv => (kV kv.1, kv.2)) ∧ kvs.length = pw.length ∧ ∀ a b, RepKV p α H a b → RepKV p α H (pw.foldl (fun acc kv => putD acc kv.1 kv.2) a) (mergeK b kvs)
  | [], ws, pw, h, hf, r => by
    cases ws with
    | nil =>
      simp only [pairW, Option.some.injEq] at h
      subst h
      exact ⟨[], rfl, rfl, fun a b r => r⟩
    | cons w ws =>
      obtain ⟨_, _, e, _⟩ := r.cons'
      cases e
  | (x, y) :: ps, ws, pw, h, hf, r => by
    rcases ws with _ | ⟨a, _ | ⟨b, ws⟩⟩
    · have := r.nil'
      cases this
    · simp [pairW] at h
    · simp only [pairW] at h
      obtain ⟨q, hq, rfl⟩ := oMap h
      simp only [List.all_cons, Bool.and_eq_true] at hf
      simp only [flatP] at r
      obtain ⟨_, _, e, r1, r⟩ := r.cons'
      cases e
      obtain ⟨_, _, e, r2, r⟩ := r.cons'
      cases e
      obtain ⟨kvs, e1, e2, e3⟩ := pairs_rep hq hf.2 r
      obtain ⟨κ, hκ⟩ := fits_key hf.1
      have hx := keyK_rep hκ r1
      subst hx e1
      exact ⟨(κ, y) :: kvs, rfl, by simp [e2], fun a b rr => e3 _ _ (RepKV.put hκ r2 rr)⟩
theorem Sim.adoptO {α : List Addr} {g : G} {H : Hp} {D : Addr} {o : Ob} (s : Sim p α g H) (n : D ∉ α) (r : RepO p (α ++ [D]) H D o) : Sim p (α ++ [D]) (g ++ [o]) H := by
  refine ⟨by simp [s.len], fun i o' a e1 e2 => ?_, ?_⟩
  · by_cases hi : i < g.length
    · rw [List.getElem?_append_left hi] at e1
      rw [List.getElem?_append_left (by rw [s.len]; exact hi)] at e2
      exact (s.ob i o' a e1 e2).mono ⟨[D], rfl⟩ (.refl _) rfl
    · have : i = g.length := by
        have := (List.getElem?_eq_some_iff.mp e1).1
        simp at this
        omega
      subst this
      rw [List.getElem?_append_right (Nat.le_refl _)] at e1
      rw [← s.len, List.getElem?_append_right (Nat.le_refl _)] at e2
      simp at e1 e2
      subst e1 e2
      exact r
  · rw [List.nodup_append]
    refine ⟨s.nd, by simp, fun a ha b hb => ?_⟩
    have : b = D := by simpa using hb
    subst this
    rintro rfl
    exact n ha
theorem disp_go {Wx : WX} {es : EL} {trs : List (TE × TE)} (P : Prs p Wx T call es trs) {σ : St} {H : Hp} {Q : VK} (h : tV p Wx T call (.dnew es) σ H Q) : tDisp trs σ H Q := by
  obtain ⟨α, ρ, g, S, E, q⟩ := h
  intro D hD
  have nD : D ∉ α := fun hm => by
    obtain ⟨u, hu⟩ := S.trk hm
    rw [hD] at hu; cases hu
  refine prs_go P (S.junk hD) (E.mono (.junk hD)) ?_
  simp only [ev] at q
  cases hr : evl T call es ρ g with
  | err => rw [hr] at q; exact q
  | exc c g1 => rw [hr] at q; exact fun α' H' k s => q α' H' ((Kp.junk hD).trans k) s
  | ok ws g1 =>
    rw [hr] at q
    simp only [R.bind] at q
    intro α1 H1 xs K1 S1 rs ps ep
    obtain ⟨hD1, nD1⟩ := K1.fr D _ upd_same nD
    split at q
    · rename_i pw hp
      split at q
      · rename_i hc
        subst ep
        obtain ⟨kvs, e1, e2, e3⟩ := pairs_rep hp hc.2 rs
        refine ⟨hD1, kvs, e1, by rw [e2]; exact hc.1, ?_⟩
        have mu : Mut (H1 D) := by rw [hD1]; exact trivial
        have kw : Keep H1 (upd H1 D (.dK (mergeK [] kvs))) := .write mu
        have hk : Kp α H (α1 ++ [D]) (upd H1 D (.dK (mergeK [] kvs))) := ⟨K1.pre.trans ⟨[D], rfl⟩, (Kp.junk (α := α) hD).kp.trans (K1.kp.trans kw), fun a u e n => by
          have ne : a ≠ D := ne_of_none e hD
          obtain ⟨x1, x2⟩ := K1.fr a u (by rw [upd_ne ne]; exact e) n
          refine ⟨by rw [upd_ne ne]; exact x1, fun hm => ?_⟩
          rcases List.mem_append.mp hm with hm | hm
          · exact x2 hm
          · exact ne (by simpa using hm)⟩
        have S2 : Sim p α1 g1 (upd H1 D (.dK (mergeK [] kvs))) := S1.mono kw fun a u _ _ ha => by
          rw [upd_ne]
          rintro rfl
          exact nD1 ha
        refine q _ _ (.ref D) hk (S2.adoptO nD1 ⟨_, upd_same, (e3 [] [] rfl).mono ⟨[D], rfl⟩ kw⟩) (.ref (by rw [← S1.len]; simp))
      · exact q.elim
    · exact q.elim
theorem nPairs_ok {r : Rec} (ih : Snd p T call lv c r) {Wx : WX} {X : Cx} {sc : Scope} (G : Good p T call lv c Wx X sc) {pos : Pos} : ∀ {ks : List (Option Expr)} {vs : List Expr} {es : EL}, nPairs r sc ks vs = some es →
    ∃ trs, Prs p Wx T call es trs ∧ PPs X pos ks vs trs ∧ ks.all (·.isSome) = true ∧ ks.length = vs.length
  | [], [], es, h => by
    simp only [nPairs, Option.some.injEq] at h
    subst h
    exact ⟨[], .nil, pps_nil, rfl, rfl⟩
  | some k :: ks, v :: vs, es, h => by
    simp only [nPairs] at h
    split at h
    · rename_i h1 h2 h3
      cases h
      obtain ⟨trs, a, b, d, l⟩ := nPairs_ok ih G (pos := pos) h3
      exact ⟨_, .cons a, pps_cons (ih.e G h1) (ih.e G h2) b, by simpa using d, by simp [l]⟩
    · cases h
  | [], _ :: _, es, h => by simp [nPairs] at h
  | none :: _, [], es, h => by simp [nPairs] at h
  | none :: _, _ :: _, es, h => by simp [nPairs] at h
  | some _ :: _, [], es, h => by simp [nPairs] at h
theorem snd_dict {r : Rec} (ih : Snd p T call lv c r) {Wx : WX} {X : Cx} {sc : Scope} (G : Good p T call lv c Wx X sc) {ks : List (Option Expr)} {vs : List Expr} {es : EL} {pos : Pos} (h : nPairs r sc ks vs = some es) (hl : ks.length ≤ 15) : PE X (.Dict ks vs pos) (tV p Wx T call (.dnew es)) := by
  cases ks with
  | nil =>
    cases vs with
    | nil =>
      simp only [nPairs, Option.some.injEq] at h
      subst h
      refine PE.by fun σ H Q ⟨α, ρ, g, S, E, q⟩ => ⟨_, pe_dnewK, fun D hD => ?_⟩
      simp only [ev, evl, R.bind, pairW] at q
      rw [if_pos (by simp)] at q
      exact q _ _ (.ref D) (.new hD) (S.new hD ⟨[], upd_same, rfl⟩) (.ref (by rw [← S.len]; simp))
    | cons _ _ => simp [nPairs] at h
  | cons k ks =>
    obtain ⟨trs, a, b, d, l⟩ := nPairs_ok ih G (pos := pos) h
    exact PE.by fun σ H Q q => ⟨_, pe_disp b d l (by simp) hl, disp_go a q⟩
theorem snd_dcomp {r : Rec} (ih : Snd p T call lv c r) {Wx : WX} {X : Cx} {sc : Scope} (G : Good p T call lv c Wx X sc) {kx vx tg iter : Expr} {ifs : List Expr} {scope : Scope} {pos : Pos} {e' : E} (h : nDC c r sc kx vx tg iter ifs scope = some e') :
    ∃ (own : List (Str × Nat)) (t : Tg) (s : Src) (d ke ve : E), e' = .dcomp (own.map (·.2)) t s d ke ve ∧ (∀ i ∈ t.slots, i ∈ own.map (·.2)) ∧ PE X (.DictComp kx vx [⟨tg, iter, ifs, 0⟩] scope pos) (tDc (tC p Wx T call s) (gT p.K t) (tB p WF (tst T call d)) (tE p WF (ev T call ke)) (tE p WF (ev T call ve)) (own.map (·.2))) ∧
      ∀ {i : Nat} {y : Str} {py spos : Pos}, X.N[i]? = some y → X.env.scope.names.lookup y = some .local → swapsWith (.DictComp kx vx [⟨tg, iter, ifs, 0⟩] scope pos) (some (.Name y py)) spos.line X.env = pure true →
        PS X (.Assign [.Name y py] (.DictComp kx vx [⟨tg, iter, ifs, 0⟩] scope pos) spos) (tAsg (tDc (tC p Wx T call s) (gT p.K t) (tB p WF (tst T call d)) (tE p WF (ev T call ke)) (tE p WF (ev T call ve)) (own.map (·.2))) (gName i)) := by
  unfold nDC at h
  split at h
  · rename_i own t s d ke ve h1 h2 h3 h4 h5 h6
    split at h
    · rename_i hc
      simp only [Bool.and_eq_true] at hc
      obtain ⟨⟨hb, ht⟩, hi⟩ := hc
      cases h
      have hK := G.hK
      have b1 : ∀ (s : Shared) (H : Hp) (C : Addr) (cl : List (Str × Addr)) (fp : List Addr), PG (X.blk s H scope (compEnvC scope cl C X.env) fp) tg (gT p.K t) := fun s H C cl fp => tg_ok (cl := clB scope) (G.blk scope s H C cl fp) (fun x hx => hx) h2
      have b2 : ∀ (s : Shared) (H : Hp) (C : Addr) (cl : List (Str × Addr)) (fp : List Addr), PTs (X.blk s H scope (compEnvC scope cl C X.env) fp) ifs (tB p WF (tst T call d)) := fun s H C cl fp => by
        unfold nIfs at h4
        split at h4
        · cases h4
          refine ⟨fun pins s σ H Q I ⟨α, ρ, g, S, E, q⟩ => pts_nil.run pins s σ H Q I ?_⟩
          simp only [tst, ev, R.bind, R.of, truthW] at q
          exact post.ok q S rfl
        · exact pts_one (ih.t (G.blk scope s H C cl fp) h4)
        · cases h4
      have b3 : ∀ (s : Shared) (H : Hp) (C : Addr) (cl : List (Str × Addr)) (fp : List Addr), PE (X.blk s H scope (compEnvC scope cl C X.env) fp) kx (tE p WF (ev T call ke)) := fun s H C cl fp => ih.e (G.blk scope s H C cl fp) h5
      have b4 : ∀ (s : Shared) (H : Hp) (C : Addr) (cl : List (Str × Addr)) (fp : List Addr), PE (X.blk s H scope (compEnvC scope cl C X.env) fp) vx (tE p WF (ev T call ve)) := fun s H C cl fp => ih.e (G.blk scope s H C cl fp) h6
      refine ⟨own, t, s, d, ke, ve, rfl, fun i hm => by simpa using List.all_eq_true.mp ht i hm, ?_, ?_⟩
      · exact pe_dc G.calm (by rw [G.N]; exact G.nd) (ih.s G h3) (by rw [G.N, G.sc]; exact blkOk_by hb) b1 b2 b3 b4 (foldPlain hi _)
      · intro i y py spos hN hl hsw
        exact ps_setDc G.calm (by rw [G.N]; exact G.nd) hN hl hsw (ih.s G h3) (by rw [G.N, G.sc]; exact blkOk_by hb) b1 b2 b3 b4 (foldPlain hi _)
    · cases h
  · cases h
theorem snd_e {r : Rec} (ih : Snd p T call lv c r) {Wx : WX} {X : Cx} {sc : Scope} (G : Good p T call lv c Wx X sc) {e : Expr} {e' : E} (h : nE c r sc e = some e') : PE X e (tV p Wx T call e') := by
  unfold nE at h
  split at h
  · split at h
    · cases h; exact e_non
    · cases h; exact e_bl
    · cases h; exact e_int
    · cases h; exact e_str
    · cases h
  · exact name_ok G h
  · split at h
    · rename_i hl
      obtain ⟨es', h1, rfl⟩ := oMap h
      obtain ⟨a, b, _, d⟩ := ih.el G h1
      exact e_tup a hl d
    · cases h
  · split at h
    · rename_i hl
      obtain ⟨es', h1, rfl⟩ := oMap h
      obtain ⟨a, b, _, d⟩ := ih.el G h1
      exact e_lst a hl d
    · cases h
  · split at h
    · rename_i h0 h1 h2
      cases h
      rw [cBop_ok h0]
      exact e_bop G.hK (ih.e G h1) (ih.e G h2)
    · cases h
  · split at h
    · obtain ⟨a, h1, rfl⟩ := oMap h
      exact e_neg (ih.e G h1)
    · obtain ⟨a, h1, rfl⟩ := oMap h
      exact e_not (ih.e G h1)
    · cases h
  · exact ih.b G h
  · exact (snd_c ih G h).1
  · split at h
    · rename_i h0 h1 h2
      cases h
      exact e_ife (ih.t G h0) (ih.e G h1) (ih.e G h2)
    · cases h
  · exact snd_sub ih G h
  · split at h
    · rename_i o f pos hc
      simp only [Bool.and_eq_true] at hc
      obtain ⟨o', h1, rfl⟩ := oMap h
      have k := e_fld (f := f.cps.toList) (pos := pos) G.hK (G.fs.fld _ hc.1) (ih.e G h1) (attr_base hc.2)
      rw [nmS_id] at k
      exact k
    · cases h
  · exact snd_call ih G h
  · split at h
    · rename_i hc
      simp only [Bool.and_eq_true, decide_eq_true_eq] at hc
      exact snd_meth ih G h hc.1.1 hc.1.2 hc.2
    · cases h
  · exact (ih.i G h).2 rfl
  · split at h
    · rename_i hl
      obtain ⟨es, h1, rfl⟩ := oMap h
      exact snd_dict ih G h1 hl
    · cases h
  · obtain ⟨own, t, s, d, ke, ve, rfl, hv, k, _⟩ := snd_dcomp ih G h
    exact dcomp_val hv k
  · cases h
theorem snd_step {r : Rec} (ih : Snd p T call lv c r) : Snd p T call lv c (stp c r) where
  e G _ _ h := snd_e ih G h
  el G _ _ h := snd_el ih G h
  b G _ _ _ _ h := snd_b ih G h
  t G _ _ h := snd_t ih G h
  bt G _ _ _ _ h := snd_bt ih G h
  i G _ _ h := snd_i ih G h
  s G _ _ _ h := snd_s ih G h
theorem snd : ∀ n, Snd p T call lv c (cR c n)
  | 0 => ⟨fun _ _ _ h => (by cases h), fun _ _ _ h => (by cases h), fun _ _ _ _ _ h => (by cases h), fun _ _ _ h => (by cases h), fun _ _ _ _ _ h => (by cases h), fun _ _ _ h => (by cases h), fun _ _ _ _ h => (by cases h)⟩
  | n + 1 => snd_step (snd n)
end
end Dl

/-! DlO: statements: the compiler and its soundness. -/
namespace Dl
open PySem L2
structure SRec where
  st : Scope → Stmt → Option S
  sts : Scope → List Stmt → Option SL
def swB (sc : Scope) (y : Str) (py pos : Pos) (cs : Scope) : Bool :=
  (if sc.kind.isAnnotationScope then ScopeKind.function else sc.kind) == .function && sc.names.lookup y == some .local && py.line == pos.line && !(cs.names.any fun (n, k) => n == y && (k == .local || k == .cell))
section
variable (c : Cn) (r : Rec) (k : SRec)
def cAug : Operator → Option Bop
  | .Add => some .add
  | .Sub => some .sub
  | _ => none
def nSwap (sc : Scope) : List Expr → Expr → Option S
  | [.Subscript a b _, .Subscript d e _], .Tuple [x, y] _ _ => if notSlice b && (notSlice e && (notStar x && notStar y)) then match r.e sc a, r.e sc b, r.e sc d, r.e sc e, r.e sc x, r.e sc y with
    | some a', some b', some d', some e', some x', some y' => some (.swap a' b' d' e' x' y')
    | _, _, _, _, _, _ => none else none
  | _, _ => none
def nAsg (sc : Scope) (tg v : Expr) : Option S := match tg with
  | .Name x px => match cTgN c clA sc (.Name x px) with
    | some i => (match v with
      | .ListComp elt [⟨tg, iter, ifs, 0⟩] scope pos => if swB sc x px pos scope then (nLC c r sc elt tg iter ifs scope).map fun e => .asg (.nm i) e else (r.e sc v).map fun e => .asg (.nm i) e
      | .DictComp kx vx [⟨tg, iter, ifs, 0⟩] scope pos => if swB sc x px pos scope then (nDC c r sc kx vx tg iter ifs scope).map fun e => .asg (.nm i) e else none
      | v => if notComp v then (r.e sc v).map fun e => .asg (.nm i) e else none)
    | none => none
  | .Tuple es _ _ => if isTup v then nSwap r sc es v else match cTgs c clA sc es, r.e sc v with
    | some l, some e => some (.asg (.tp l) e)
    | _, _ => none
  | .Subscript o i _ => if notSlice i then match r.e sc o, r.e sc i, r.e sc v with
    | some o', some i', some v' => some (.put o' i' v')
    | _, _, _ => none else none
  | .Attribute o f _ => if c.fld.contains f.cps.toList then match r.e sc o, r.e sc v with
    | some o', some v' => some (.setf o' f.cps.toList v')
    | _, _ => none else none
  | _ => none
def nRaise (sc : Scope) (e : Expr) : Option S := match e with
  | .Call (.Name x _) [.Constant (.str _) _ _] [] _ => if isGl sc x then match c.gl.lookup x with
    | some (.exc k) => some (.rais k)
    | _ => none else none
  | _ => none
def isDoc : Expr → Bool
  | .Constant (.str _) _ _ => true
  | _ => false
def nSt (sc : Scope) (s : Stmt) : Option S := match s with
  | .Assign [tg] v _ => nAsg c r sc tg v
  | .AugAssign tg op v _ => (match tg, cAug op, r.e sc v with
    | .Name x px, some o, some v' => (cTgN c clA sc (.Name x px)).map fun i => .aug i o v'
    | .Attribute a f _, some o, some v' => if c.fld.contains f.cps.toList then (r.e sc a).map fun a' => .augf a' f.cps.toList o v' else none
    | _, _, _ => none)
  | .Expr e _ => if isDoc e then some .pass else if notComp e then (r.e sc e).map .expr else none
  | .Return none _ => some .retn
  | .Return (some e) _ => (r.e sc e).map .ret
  | .If t a b _ => (match r.t sc t, k.sts sc a, k.sts sc b with
    | some t', some a', some b' => some (.ifs t' a' b')
    | _, _, _ => none)
  | .While t a [] _ => (match r.t sc t, k.sts sc a with
    | some t', some a' => some (.whl t' a')
    | _, _ => none)
  | .For tg it a [] _ => if notSet it then (match cTg c clA sc tg, r.s sc tg it, k.sts sc a with
    | some t', some s', some a' => some (.for_ t' s' a')
    | _, _, _ => none) else none
  | .Raise (some e) none _ => nRaise c sc e
  | .Pass _ => some .pass
  | .Break _ => some .brk
  | .Continue _ => some .cnt
  | _ => none
def nSts (sc : Scope) : List Stmt → Option SL
  | [] => some .nil
  | s :: ss => match k.st sc s, k.sts sc ss with
    | some s', some r' => some (.cons s' r')
    | _, _ => none
def cSR : Nat → SRec
  | 0 => ⟨fun _ _ => none, fun _ _ => none⟩
  | n + 1 => ⟨nSt c r (cSR n), nSts (cSR n)⟩
end
section
variable {p : Px} {T : Tbl} {call : CallF} {lv : Nat} {c : Cn}
structure SndS (p : Px) (T : Tbl) (call : CallF) (lv : Nat) (c : Cn) (k : SRec) : Prop where
  st : ∀ {Wx X sc}, Good p T call lv c Wx X sc → (∀ x, clA x = true → X.fn x = true) → ∀ {s s'}, k.st sc s = some s' → PS X s (tX p Wx T call s')
  sts : ∀ {Wx X sc}, Good p T call lv c Wx X sc → (∀ x, clA x = true → X.fn x = true) → ∀ {s s'}, k.sts sc s = some s' → PSs X s (tXs p Wx T call s')
theorem sw_no {v : Expr} {t : Option Expr} {l : Nat} {env : PySem.Env} (h : notComp v = true) : swapsWith v t l env = pure false := by
  cases v <;> first | rfl | (simp [notComp] at h; done)
theorem sw_no2 {v t : Expr} {l : Nat} {env : PySem.Env} (h : notComp v = true) : swapsWithSole [t] v l env = pure false := sw_no h
theorem sw_tup {v : Expr} {es : List Expr} {k : Nat} {p' : Pos} {l : Nat} {env : PySem.Env} : swapsWithSole [.Tuple es k p'] v l env = pure false := by
  cases v <;> rfl
theorem sw_sub {v o i : Expr} {p' : Pos} {l : Nat} {env : PySem.Env} : swapsWith v (some (.Subscript o i p')) l env = pure false := by
  cases v <;> rfl
theorem sw_sub2 {v o i : Expr} {p' : Pos} {l : Nat} {env : PySem.Env} : swapsWithSole [.Subscript o i p'] v l env = pure false := sw_sub (o := o) (i := i) (p' := p') (l := l) (env := env)
theorem sw_att {v o : Expr} {f : Str} {p' : Pos} {l : Nat} {env : PySem.Env} : swapsWith v (some (.Attribute o f p')) l env = pure false := by
  cases v <;> rfl
theorem ss_no {t v : Expr} {env : PySem.Env} (h : isTup v = false) : swappedStores [t] v env = pure none := by
  cases v <;> first | (cases t <;> rfl) | (simp [isTup] at h; done)
theorem ss_sub {o i v : Expr} {p' : Pos} {env : PySem.Env} : swappedStores [.Subscript o i p'] v env = pure none := by
  cases v <;> rfl
theorem asg_sub {o i : Expr} {pos : Pos} {env : PySem.Env} (h : notSlice i = true) : ∀ v, assign (.Subscript o i pos) env v = (do
      let ov ← holding [v] (eval o env)
      let iv ← holding [v, ov] (eval i env)
      standAt pos
      holding [v, ov, iv] (setItem ov iv v)
      release [v, ov, iv] []) := by
  intro v
  cases i <;> first | rfl | (simp [notSlice] at h; done)
theorem sw_lc {elt : Expr} {gs : List Comprehension} {scope sc : Scope} {pos py : Pos} {y : Str} {l : Nat} {env : PySem.Env} (h : env.scope = sc) : swapsWith (.ListComp elt gs scope pos) (some (.Name y py)) l env = pure (swB sc y py pos scope) := by
  subst h; rfl
theorem sw_dc {kx vx : Expr} {gs : List Comprehension} {scope sc : Scope} {pos py : Pos} {y : Str} {l : Nat} {env : PySem.Env} (h : env.scope = sc) : swapsWith (.DictComp kx vx gs scope pos) (some (.Name y py)) l env = pure (swB sc y py pos scope) := by
  subst h; rfl
theorem cAug_ok {op : Operator} {o : Bop} (h : cAug op = some o) : (op = .Add ∧ o = .add) ∨ (op = .Sub ∧ o = .sub) := by
  cases op <;> simp [cAug] at h <;> subst h <;> simp
theorem aug_name {Wx : WX} {X : Cx} {sc : Scope} (G : Good p T call lv c Wx X sc) (hf : ∀ x, clA x = true → X.fn x = true) {x : Str} {px pos : Pos} {i : Nat} {op : Operator} {o : Bop} {v : Expr} {v' : E} (hi : cTgN c clA sc (.Name x px) = some i) (ho : cAug op = some o) (hv : PE X v (tV p Wx T call v')) : PS X (.AugAssign (.Name x px) op v pos) (tX p Wx T call (.aug i o v')) := by
  obtain ⟨y, q, e, h1, h2, h3⟩ := tgN_ok G hf hi
  cases e
  have nd : X.N.Nodup := by rw [G.N]; exact G.nd
  rcases cAug_ok ho with ⟨rfl, rfl⟩ | ⟨rfl, rfl⟩
  · exact x_aug _ (fun a b z H Q e q => ⟨a, b, rfl, rfl, by subst e; exact q⟩) (ps_aug nd h1 h2 hv ip_add h3)
  · exact x_aug _ (fun a b z H Q e q => ⟨a, b, rfl, rfl, by subst e; exact q⟩) (ps_aug nd h1 h2 hv ip_sub h3)
theorem aug_fld {Wx : WX} {X : Cx} {sc : Scope} (G : Good p T call lv c Wx X sc) {a : Expr} {a' : E} {f : Str} {px pos : Pos} {op : Operator} {o : Bop} {v : Expr} {v' : E} (hf : c.fld.contains f.cps.toList = true) (ha : PE X a (tV p Wx T call a')) (ho : cAug op = some o) (hv : PE X v (tV p Wx T call v')) : PS X (.AugAssign (.Attribute a f px) op v pos) (tX p Wx T call (.augf a' f.cps.toList o v')) := by
  rcases cAug_ok ho with ⟨rfl, rfl⟩ | ⟨rfl, rfl⟩
  · exact x_augf rAdd (fun a b z H Q e q => ⟨a, b, rfl, rfl, by subst e; exact q⟩) G.hK (G.fs.fld _ hf) (by rw [nmS_id]; exact ps_fldaug ha hv in_add)
  · exact x_augf rSub (fun a b z H Q e q => ⟨a, b, rfl, rfl, by subst e; exact q⟩) G.hK (G.fs.fld _ hf) (by rw [nmS_id]; exact ps_fldaug ha hv in_sub)
theorem ss_swap {a b d e x y : Expr} {p1 p2 p3 p4 : Pos} {k1 k2 : Nat} {env : PySem.Env} : swappedStores [.Tuple [.Subscript a b p1, .Subscript d e p2] k1 p3] (.Tuple [x, y] k2 p4) env = pure none := by
  unfold swappedStores
  simp
theorem snd_swap {r : Rec} (ih : Snd p T call lv c r) {Wx : WX} {X : Cx} {sc : Scope} (G : Good p T call lv c Wx X sc) {es : List Expr} {v : Expr} {k1 : Nat} {pos p3 : Pos} {s' : S} (h : nSwap r sc es v = some s') : PS X (.Assign [.Tuple es k1 p3] v pos) (tX p Wx T call s') := by
  unfold nSwap at h
  split at h
  · split at h
    · rename_i hc
      simp only [Bool.and_eq_true] at hc
      split at h
      · rename_i q1 q2 q3 q4 q5 q6
        cases h
        refine x_swap (ps_asg (pe_tup (two_arg ih G q5 q6 hc.2.2.1 hc.2.2.2)) (pg_tup G.calm (pgs_cons (pg_sub (ih.e G q1) (ih.e G q2) set_list (asg_sub hc.1)) (pgs_cons (pg_sub (ih.e G q3) (ih.e G q4) set_list (asg_sub hc.2.1)) pgs_nil))) rfl ss_swap)
      · cases h
    · cases h
  · cases h
theorem snd_asg {r : Rec} (ih : Snd p T call lv c r) {Wx : WX} {X : Cx} {sc : Scope} (G : Good p T call lv c Wx X sc) (hf : ∀ x, clA x = true → X.fn x = true) {tg v : Expr} {pos : Pos} {s' : S} (h : nAsg c r sc tg v = some s') : PS X (.Assign [tg] v pos) (tX p Wx T call s') := by
  have nd : X.N.Nodup := by rw [G.N]; exact G.nd
  have hK := G.hK
  unfold nAsg at h
  split at h
  · split at h
    · rename_i x px i hi
      obtain ⟨y, q, e, h1, h2, hq⟩ := tgN_ok G hf hi
      cases e
      split at h
      · rename_i elt tg iter ifs scope lpos
        split at h
        · rename_i hsw
          obtain ⟨e', h3, rfl⟩ := oMap h
          unfold nLC at h3
          split at h3
          · rename_i own t s d el k1 k2 k3 k4 k5
            split at h3
            · rename_i hc
              simp only [Bool.and_eq_true] at hc
              obtain ⟨⟨hb, ht⟩, hi2⟩ := hc
              cases h3
              have hv : ∀ i ∈ t.slots, i ∈ own.map (·.2) := fun i hm => by simpa using List.all_eq_true.mp ht i hm
              refine x_set (te := tV p Wx T call (.comp (own.map (·.2)) t s d el)) (PS.by fun D σ H q => ⟨tAsg (tLc (tC p Wx T call s) (gT p.K t) (tB p WF (tst T call d)) (tE p WF (ev T call el)) (own.map (·.2))) (gName i), ?_, ?_⟩)
              · refine ps_setLc G.calm nd h1 (by rw [G.sc]; unfold swB at hsw; simp only [Bool.and_eq_true, beq_iff_eq] at hsw; exact hsw.1.1.2) (by rw [sw_lc G.sc, hsw]) (ih.s G k3) (by rw [G.N, G.sc]; exact blkOk_by hb) (fun s H C cl fp => ?_) (fun s H C cl fp => ?_) (fun s H C cl fp => ?_) (foldPlain hi2 _)
                · exact tg_ok (cl := clB scope) (G.blk scope s H C cl fp) (fun x hx => hx) k2
                · unfold nIfs at k4
                  split at k4
                  · cases k4
                    refine ⟨fun pins s σ H Q I ⟨α, ρ, g, S, E, q⟩ => pts_nil.run pins s σ H Q I ?_⟩
                    simp only [tst, ev, R.bind, R.of, truthW] at q
                    exact post.ok q S rfl
                  · exact pts_one (ih.t (G.blk scope s H C cl fp) k4)
                  · cases k4
                · exact ih.e (G.blk scope s H C cl fp) k5
              · have e2 : ev T call (.comp (own.map (·.2)) t s d el) = fun ρ g => (its T call (.comp (own.map (·.2)) t s d el) ρ g).bind fun ws g2 => R.ok (W.ref g2.length) (g2 ++ [Ob.lst ws]) := by
                  funext ρ g
                  rw [ev_comp]
                have q2 : tE p Wx (ev T call (.comp (own.map (·.2)) t s d el)) σ H (fun x H1 => gName i x σ H1 D.nx) := q
                rw [e2] at q2
                exact comp_go hv (alloc_go q2)
            · cases h3
          · cases h3
        · rename_i hsw
          obtain ⟨e', h3, rfl⟩ := oMap h
          exact x_set (te := tV p Wx T call e') (ps_set nd h1 h2 (ih.e G h3) (by rw [sw_lc G.sc]; simp at hsw; rw [hsw]) hq)
      · rename_i kx vx tg iter ifs scope lpos
        split at h
        · rename_i hsw
          obtain ⟨e', h3, rfl⟩ := oMap h
          obtain ⟨own, t, s, d, ke, ve, rfl, hv, _, k⟩ := snd_dcomp (pos := lpos) ih G h3
          refine x_set (te := tV p Wx T call (.dcomp (own.map (·.2)) t s d ke ve)) (PS.by fun D σ H q => ⟨_, k h1 (by rw [G.sc]; unfold swB at hsw; simp only [Bool.and_eq_true, beq_iff_eq] at hsw; exact hsw.1.1.2) (by rw [sw_dc G.sc, hsw]), ?_⟩)
          have e2 : ev T call (.dcomp (own.map (·.2)) t s d ke ve) = fun ρ g => (dits T call (own.map (·.2)) t s d ke ve ρ g).bind fun ws g2 => R.ok (W.ref g2.length) (g2 ++ [Ob.dct ws]) := by
            funext ρ g
            rw [ev_dcomp]
          have q2 : tE p Wx (ev T call (.dcomp (own.map (·.2)) t s d ke ve)) σ H (fun x H1 => gName i x σ H1 D.nx) := q
          rw [e2] at q2
          exact dcomp_go hv (allocD_go q2)
        · cases h
      · split at h
        · rename_i hn
          obtain ⟨e', h3, rfl⟩ := oMap h
          exact x_set (te := tV p Wx T call e') (ps_set nd h1 h2 (ih.e G h3) (sw_no hn) hq)
        · cases h
    · cases h
  · split at h
    · exact snd_swap ih G h
    · rename_i hn
      simp only [Bool.not_eq_true] at hn
      split at h
      · rename_i l e' k1 k2
        cases h
        obtain ⟨a, b, d⟩ := tgs_ok G hf k1
        exact x_tup hK (ps_asg (ih.e G k2) (pg_tup G.calm a b d) sw_tup (ss_no hn)) (ps_asg (ih.e G k2) (pg_lst G.calm a b d) sw_tup (ss_no hn))
      · cases h
  · split at h
    · rename_i hs
      split at h
      · rename_i k1 k2 k3
        cases h
        exact x_put hK (ps_asg (ih.e G k3) (pg_sub (ih.e G k1) (ih.e G k2) set_list (asg_sub hs)) sw_sub2 ss_sub) (ps_dput (by have := G.hu; omega) (ih.e G k1) (ih.e G k2) (ih.e G k3) sw_sub)
      · cases h
    · cases h
  · split at h
    · rename_i hf
      split at h
      · rename_i k1 k2
        cases h
        exact x_setf hK (G.fs.fld _ hf) (by rw [nmS_id]; exact ps_fld (ih.e G k1) (ih.e G k2) sw_att)
      · cases h
    · cases h
  · cases h
theorem isDoc_ok {e : Expr} (h : isDoc e = true) : ∃ s k q, e = .Constant (.str s) k q := by
  unfold isDoc at h
  split at h
  · exact ⟨_, _, _, rfl⟩
  · cases h
theorem snd_st {r : Rec} {k : SRec} (ih : Snd p T call lv c r) (ik : SndS p T call lv c k) {Wx : WX} {X : Cx} {sc : Scope} (G : Good p T call lv c Wx X sc) (hf : ∀ x, clA x = true → X.fn x = true) {s : Stmt} {s' : S} (h : nSt c r k sc s = some s') : PS X s (tX p Wx T call s') := by
  unfold nSt at h
  split at h
  · exact snd_asg ih G hf h
  · split at h
    · rename_i k1 k2
      obtain ⟨i, k3, rfl⟩ := oMap h
      exact aug_name G hf k3 k1 (ih.e G k2)
    · rename_i k1 k2
      split at h
      · rename_i hf
        obtain ⟨i, k3, rfl⟩ := oMap h
        exact aug_fld G hf (ih.e G k3) k1 (ih.e G k2)
      · cases h
    · cases h
  · split at h
    · rename_i hd
      cases h
      obtain ⟨s, k, q, rfl⟩ := isDoc_ok hd
      exact PS.by fun D σ H ⟨α, ρ, g, S, E, q⟩ => ⟨_, ps_doc, by simp only [ex] at q; exact q α H σ (.refl _ _) S E⟩
    · split at h
      · rename_i hn
        obtain ⟨e', k3, rfl⟩ := oMap h
        exact x_expr (ps_expr (ih.e G k3) (sw_no hn))
      · cases h
  · cases h; exact x_retn
  · obtain ⟨e', k3, rfl⟩ := oMap h
    exact x_ret (ih.e G k3)
  · split at h
    · rename_i k1 k2 k3
      cases h
      exact x_ifs (ih.t G k1) (ik.sts G hf k2) (ik.sts G hf k3)
    · cases h
  · split at h
    · rename_i k1 k2
      cases h
      exact x_whl G.own (ih.t G k1) (ik.sts G hf k2)
    · cases h
  · split at h
    · rename_i hs
      split at h
      · rename_i k1 k2 k3
        cases h
        exact x_for G.hK G.own G.calm (ih.s G k2) (tg_ok G hf k1) (ik.sts G hf k3) (foldPlain hs _)
      · cases h
    · cases h
  · unfold nRaise at h
    split at h
    · split at h
      · rename_i hg
        split at h
        · rename_i k hl
          cases h
          obtain ⟨a, b, d⟩ := isGl_ok G hg
          obtain ⟨e1, e2, e3, e4⟩ := G.fs.exc _ _ hl
          exact x_rais G.calm G.tk (pmk_own PySem.F.excBase_ValueError e2 e1 e3 e4 a b)
        · cases h
      · cases h
    · cases h
  · cases h; exact x_pass
  · cases h; exact x_brk
  · cases h; exact x_cnt
  · cases h
theorem snd_sts {k : SRec} (ik : SndS p T call lv c k) {Wx : WX} {X : Cx} {sc : Scope} (G : Good p T call lv c Wx X sc) (hf : ∀ x, clA x = true → X.fn x = true) {s : List Stmt} {s' : SL} (h : nSts k sc s = some s') : PSs X s (tXs p Wx T call s') := by
  unfold nSts at h
  split at h
  · cases h; exact x_nil
  · split at h
    · rename_i k1 k2
      cases h
      exact x_cons (ik.st G hf k1) (ik.sts G hf k2)
    · cases h
theorem sndS {r : Rec} (ih : Snd p T call lv c r) : ∀ n, SndS p T call lv c (cSR c r n)
  | 0 => ⟨fun _ _ _ _ h => (by cases h), fun _ _ _ _ h => (by cases h)⟩
  | n + 1 => ⟨fun G hf _ _ h => snd_st ih (sndS ih n) G hf h, fun G hf _ _ h => snd_sts (sndS ih n) G hf h⟩
end
end Dl

/-! DlP: whole functions: what a call leaves, the functions of a table by induction on the depth of calls. -/
namespace Dl
open PySem L2
theorem kvseq_eq : ∀ {a b : List (W × W)}, kvseq a b = true → a = b
  | [], [], _ => rfl
  | (a, a2) :: r, (b, b2) :: q, h => by
    simp only [kvseq, Bool.and_eq_true] at h
    rw [weq_eq h.1.1, weq_eq h.1.2, kvseq_eq h.2]
  | [], _ :: _, h => by simp [kvseq] at h
  | _ :: _, [], h => by simp [kvseq] at h
theorem fseq_eq : ∀ {a b : List (Nm × W)}, fseq a b = true → a = b
  | [], [], _ => rfl
  | (a, a2) :: r, (b, b2) :: q, h => by
    simp only [fseq, Bool.and_eq_true] at h
    rw [eq_of_beq h.1.1, weq_eq h.1.2, fseq_eq h.2]
  | [], _ :: _, h => by simp [fseq] at h
  | _ :: _, [], h => by simp [fseq] at h
theorem obeq_eq {a b : Ob} (h : obeq a b = true) : a = b := by
  cases a <;> cases b <;> simp [obeq] at h
  · rw [weqs_eq h]
  · rw [kvseq_eq h]
  · rw [kvseq_eq h]
  · rw [weqs_eq h]
  · rw [h.1, fseq_eq h.2]
theorem gpre_eq {n : Nat} : ∀ {g g' : G}, gpre n g g' = true → ∀ {i : Nat} {o : Ob}, g[i]? = some o → ∃ o', g'[i]? = some o' ∧ (o' = o ∨ lowO n o' = true)
  | [], _, _, i, o, h => by simp at h
  | a :: r, b :: q, h, 0, o, e => by
    simp only [gpre, Bool.and_eq_true, Bool.or_eq_true] at h
    simp only [List.getElem?_cons_zero, Option.some.injEq] at e
    subst e
    refine ⟨b, rfl, ?_⟩
    rcases h.1 with h | h
    · exact .inl (obeq_eq h).symm
    · exact .inr h
  | a :: r, b :: q, h, i + 1, o, e => by
    simp only [gpre, Bool.and_eq_true] at h
    simpa using gpre_eq h.2 (i := i) (by simpa using e)
  | _ :: _, [], h, _, _, _ => by simp [gpre] at h
theorem gpre_len {n : Nat} : ∀ {g g' : G}, gpre n g g' = true → g.length ≤ g'.length
  | [], _, _ => Nat.zero_le _
  | a :: r, b :: q, h => by
    simp only [gpre, Bool.and_eq_true] at h
    have := gpre_len h.2
    simp only [List.length_cons]; omega
  | _ :: _, [], h => by simp [gpre] at h
theorem Pre.lt {α α' : List Addr} (h : Pre α α') {i : Nat} (hi : i < α.length) : α'[i]? = α[i]? := by
  obtain ⟨m, rfl⟩ := h
  rw [List.getElem?_append_left hi]
mutual
theorem RepV.low {p : Px} {α α' : List Addr} {H H' : Hp} (k : Pre α α') : ∀ {w : W} {v v0 : V}, RepV p α H w v0 → RepV p α' H' w v → RepV p α H' w v
  | .non, _, _, _, h | .bl _, _, _, _, h | .int _, _, _, _, h | .str _, _, _, _, h | .exn _, _, _, _, h => by simpa only [RepV] using h
  | .tup ws, _, _, h0, h => by
    simp only [RepV] at h h0 ⊢
    obtain ⟨a, vs, e, s, r⟩ := h
    obtain ⟨_, _, _, _, r0⟩ := h0
    exact ⟨a, vs, e, s, RepVs.low k r0 r⟩
  | .ref i, _, _, h0, h => by
    simp only [RepV] at h h0 ⊢
    obtain ⟨a, e, ea⟩ := h
    obtain ⟨b, _, eb⟩ := h0
    exact ⟨a, e, by rw [← k.lt (List.getElem?_eq_some_iff.mp eb).1]; exact ea⟩
  | .fl ws, _, _, h0, h => by
    simp only [RepV] at h h0 ⊢
    obtain ⟨a, vs, e, s, r⟩ := h
    obtain ⟨_, _, _, _, r0⟩ := h0
    exact ⟨a, vs, e, s, RepVs.low k r0 r⟩
  | .fd ks ws, _, _, h0, h => by
    simp only [RepV] at h h0 ⊢
    obtain ⟨a, us, vs, e, s, x, l, m, r⟩ := h
    obtain ⟨_, _, _, _, _, _, _, _, r0⟩ := h0
    exact ⟨a, us, vs, e, s, x, l, m, RepVs.low k r0 r⟩
theorem RepVs.low {p : Px} {α α' : List Addr} {H H' : Hp} (k : Pre α α') : ∀ {ws : List W} {vs v0 : List V}, RepVs p α H ws v0 → RepVs p α' H' ws vs → RepVs p α H' ws vs
  | [], _, _, _, h => by simpa only [RepVs] using h
  | _ :: _, _, _, h0, h => by
    simp only [RepVs] at h h0 ⊢
    obtain ⟨v, q, e, a, b⟩ := h
    obtain ⟨_, _, _, a0, b0⟩ := h0
    exact ⟨v, q, e, RepV.low k a0 a, RepVs.low k b0 b⟩
end
mutual
theorem RepV.cut {p : Px} {α α' : List Addr} {H' : Hp} (k : Pre α α') : ∀ {w : W} {v : V}, below α.length w = true → RepV p α' H' w v → RepV p α H' w v
  | .non, _, _, h | .bl _, _, _, h | .int _, _, _, h | .str _, _, _, h => by simpa only [RepV] using h
  | .exn _, _, hb, _ => by simp [below] at hb
  | .tup ws, _, hb, h => by
    simp only [RepV] at h ⊢
    obtain ⟨a, vs, e, s, r⟩ := h
    exact ⟨a, vs, e, s, RepVs.cut k (by simpa only [below] using hb) r⟩
  | .ref i, _, hb, h => by
    simp only [RepV] at h ⊢
    obtain ⟨a, e, ea⟩ := h
    exact ⟨a, e, by rw [← k.lt (by simpa [below] using hb)]; exact ea⟩
  | .fl ws, _, hb, h => by
    simp only [RepV] at h ⊢
    obtain ⟨a, vs, e, s, r⟩ := h
    exact ⟨a, vs, e, s, RepVs.cut k (by simpa only [below] using hb) r⟩
  | .fd ks ws, _, hb, h => by
    simp only [RepV] at h ⊢
    obtain ⟨a, us, vs, e, s, x, l, m, r⟩ := h
    exact ⟨a, us, vs, e, s, x, l, m, RepVs.cut k (by simpa only [below] using hb) r⟩
theorem RepVs.cut {p : Px} {α α' : List Addr} {H' : Hp} (k : Pre α α') : ∀ {ws : List W} {vs : List V}, belows α.length ws = true → RepVs p α' H' ws vs → RepVs p α H' ws vs
  | [], _, _, h => by simpa only [RepVs] using h
  | _ :: _, _, hb, h => by
    simp only [RepVs] at h ⊢
    simp only [belows, Bool.and_eq_true] at hb
    obtain ⟨v, q, e, a, b⟩ := h
    exact ⟨v, q, e, RepV.cut k hb.1 a, RepVs.cut k hb.2 b⟩
end
theorem RepFs.low {p : Px} {α α' : List Addr} {H H' : Hp} (k : Pre α α') : ∀ {ws : List (Nm × W)} {vs v0 : List (Str × V)}, RepFs p α H ws v0 → RepFs p α' H' ws vs → RepFs p α H' ws vs
  | [], _, _, _, h => h
  | (_, _) :: _, _, _, ⟨_, _, _, a0, b0⟩, ⟨v, q, e, a, b⟩ => ⟨v, q, e, RepV.low k a0 a, RepFs.low k b0 b⟩
theorem RepKV.low {p : Px} {α α' : List Addr} {H H' : Hp} (k : Pre α α') : ∀ {ws : List (W × W)} {vs v0 : List (Key × V)}, RepKV p α H ws v0 → RepKV p α' H' ws vs → RepKV p α H' ws vs
  | [], _, _, _, h => h
  | (_, _) :: _, _, _, ⟨_, _, _, _, _, a0, b0⟩, ⟨u, v, q, e, x, a, b⟩ => ⟨u, v, q, e, x, RepV.low k a0 a, RepKV.low k b0 b⟩
theorem RepFs.cut {p : Px} {α α' : List Addr} {H' : Hp} (k : Pre α α') : ∀ {ws : List (Nm × W)} {vs : List (Str × V)}, (ws.all fun f => below α.length f.2) = true → RepFs p α' H' ws vs → RepFs p α H' ws vs
  | [], _, _, h => h
  | (_, _) :: _, _, hb, ⟨v, q, e, a, b⟩ => by
    simp only [List.all_cons, Bool.and_eq_true] at hb
    exact ⟨v, q, e, RepV.cut k hb.1 a, RepFs.cut k hb.2 b⟩
theorem RepKV.cut {p : Px} {α α' : List Addr} {H' : Hp} (k : Pre α α') : ∀ {ws : List (W × W)} {vs : List (Key × V)}, (ws.all fun kv => below α.length kv.1 && below α.length kv.2) = true → RepKV p α' H' ws vs → RepKV p α H' ws vs
  | [], _, _, h => h
  | (_, _) :: _, _, hb, ⟨u, v, q, e, x, a, b⟩ => by
    simp only [List.all_cons, Bool.and_eq_true] at hb
    exact ⟨u, v, q, e, x, RepV.cut k hb.1.2 a, RepKV.cut k hb.2 b⟩
theorem RepO.cut {p : Px} {α α' : List Addr} {H' : Hp} {a : Addr} {o : Ob} (k : Pre α α') (hb : lowO α.length o = true) (h : RepO p α' H' a o) : RepO p α H' a o := by
  cases o with
  | lst ws => obtain ⟨vs, x, y⟩ := h; exact ⟨vs, x, RepVs.cut k hb y⟩
  | dct ws => obtain ⟨vs, x, y⟩ := h; exact ⟨vs, x, RepKV.cut k hb y⟩
  | fz ws => obtain ⟨od, vs, x, y⟩ := h; exact ⟨od, vs, x, RepKV.cut k hb y⟩
  | set ws => exact h
  | ins c ws => obtain ⟨dx, vs, x, z, y⟩ := h; exact ⟨dx, vs, x, z, RepFs.cut k hb y⟩
/-- what a call changed nothing of stands as before -/
theorem Sim.back {p : Px} {α α' : List Addr} {g g' : G} {H H' : Hp} (S : Sim p α g H) (S' : Sim p α' g' H') (k : Kp α H α' H') (e : gpre g.length g g' = true) : Sim p α (g'.take g.length) H' := by
  have hl := gpre_len e
  refine ⟨by rw [S.len, List.length_take]; omega, fun i o a hi ha => ?_, S.nd⟩
  have hi0 : i < α.length := (List.getElem?_eq_some_iff.mp ha).1
  have hig : i < g.length := by rw [← S.len]; exact hi0
  rw [List.getElem?_take_of_lt hig] at hi
  have h0 := S.ob i g[i] a (by simp [hig]) ha
  have h1 := S'.ob i o a hi (k.pre.get ha)
  obtain ⟨o', e1, e2⟩ := gpre_eq e (i := i) (o := g[i]) (by simp [hig])
  rw [hi] at e1
  cases e1
  rcases e2 with e2 | e2
  · rw [← e2] at h0
    cases o with
    | lst ws => obtain ⟨vs, x, y⟩ := h1; obtain ⟨_, _, y0⟩ := h0; exact ⟨vs, x, RepVs.low k.pre y0 y⟩
    | dct ws => obtain ⟨vs, x, y⟩ := h1; obtain ⟨_, _, y0⟩ := h0; exact ⟨vs, x, RepKV.low k.pre y0 y⟩
    | fz ws => obtain ⟨od, vs, x, y⟩ := h1; obtain ⟨_, _, _, y0⟩ := h0; exact ⟨od, vs, x, RepKV.low k.pre y0 y⟩
    | set ws => exact h1
    | ins c ws => obtain ⟨dx, vs, x, z, y⟩ := h1; obtain ⟨_, _, _, _, y0⟩ := h0; exact ⟨dx, vs, x, z, RepFs.low k.pre y0 y⟩
  · exact RepO.cut k.pre (by rw [S.len]; exact e2) h1
theorem Kp.back {α α' : List Addr} {H H' : Hp} (k : Kp α H α' H') : Kp α H α H' := ⟨.refl _, k.kp, fun a u e n => ⟨(k.fr a u e n).1, n⟩⟩
theorem gc_post {p : Px} {α α' : List Addr} {g g' : G} {H H' : Hp} {w : W} {v : V} {Q : V → Hp → Prop} (S : Sim p α g H) (S' : Sim p α' g' H') (k : Kp α H α' H') (r : RepV p α' H' w v)
    (q : ∀ α' H' v, Kp α H α' H' → Sim p α' (gc g w g') H' → RepV p α' H' w v → Q v H') : Q v H' := by
  unfold gc at q
  split at q
  · rename_i h
    simp only [Bool.and_eq_true] at h
    exact q α H' v k.back (S.back S' k h.2) (RepV.cut k.pre (by rw [S.len]; exact h.1) r)
  · exact q α' H' v k S' r
theorem gc_exc {p : Px} {α α' : List Addr} {g g' : G} {H H' : Hp} {Q : Hp → Prop} (S : Sim p α g H) (S' : Sim p α' g' H') (k : Kp α H α' H')
    (q : ∀ α' H', Kp α H α' H' → Sim p α' (gc g .non g') H' → Q H') : Q H' := by
  unfold gc at q
  split at q
  · rename_i h
    simp only [Bool.and_eq_true] at h
    exact q α H' k.back (S.back S' k h.2)
  · exact q α' H' k S'
theorem start_sim {p : Px} {α : List Addr} {H : Hp} {ws : List W} {vs : List V} {N : List Str} (r : RepVs p α H ws vs) : SimSt p α H (startE N.length ws) (L2.start N vs) := by
  have hl := r.length
  refine ⟨by simp [startE, L2.start, hl], fun i w e => ?_⟩
  unfold startE at e
  by_cases hi : i < ws.length
  · rw [List.getElem?_append_left (by simpa using hi), List.getElem?_map] at e
    cases h : ws[i]? with
    | none => rw [h] at e; cases e
    | some w' =>
      rw [h] at e
      cases e
      obtain ⟨v, e1, e2⟩ := r.get h
      refine ⟨v, ?_, e2⟩
      unfold L2.start
      rw [List.getElem?_append_left (by simp; omega), List.getElem?_map, e1]
      rfl
  · rw [List.getElem?_append_right (by simp; omega), List.getElem?_replicate] at e
    split at e <;> cases e
/-- a body's run is a call's run -/
theorem body_run {p : Px} {T : Tbl} {call : CallF} {f : Fn} {ws : List W} {vs : List V} {g : G} {α : List Addr} {H : Hp} {N : List Str} {E : XK} {Q : VK} (hN : f.nn = N.length) (S : Sim p α g H) (r : RepVs p α H ws vs)
    (q : post p (fun cls d _ H' => E cls d H') (RepV p) (f.run T call ws g) α H [] Q) : tXs p (fun cls d _ H' => E cls d H') T call f.body { nx := fun _ H' => Q .non H', rt := Q } (L2.start N vs) H := by
  refine ⟨α, startE f.nn ws, g, S, hN ▸ start_sim r, ?_⟩
  unfold Fn.run at q
  split at q
  · cases hx : exs T call f.body (startE f.nn ws) g with
    | err => rw [hx] at q; exact q.elim
    | exc c ρ' g' =>
      rw [hx] at q
      intro α' H' σ' k S' _
      exact gc_exc S S' k fun α'' H'' k'' S'' => q α'' H'' k'' S''
    | go fl ρ' g' =>
      rw [hx] at q
      cases fl with
      | nx => exact fun α' H' σ' k S' _ => gc_post (v := .non) S S' k .non fun α'' H'' v k'' S'' r'' => q α'' H'' v k'' S'' r''
      | ret w => exact fun α' H' v k S' r' => gc_post S S' k r' fun α'' H'' v k'' S'' r'' => q α'' H'' v k'' S'' r''
      | brk => exact q.elim
      | cnt => exact q.elim
  · exact q.elim
end Dl

/-! DlQ: a text as data: its defs, classes, names; the calls of its functions are the interpreter's. -/
namespace Dl
open PySem L2
structure FnI where
  d : He.DefD
  N : List Str
  ps : List Str
  d0 : d.dfl = []
  k0 : d.kwd = []
  sc : FnScope N ps d.scope
  bd : ∀ (kV doc pm : Value) (an : Option Addr) (cdv ct : Value) (us : List Value), us.length = ps.length → bindArgs (PySem.W.fnOf d.name d.qual d.params d.body d.scope .none kV doc pm an cdv ct) ⟨us, []⟩ = pure (ps.zip us)
structure Pg where
  fns : List FnI
  cls : List (Str × Cl)
  exs : List Str
  gl : List (Str × GV)
  fld : List Nm
namespace Pg
variable (g : Pg)
def cn (N : List Str) : Cn := ⟨g.gl, g.fld, N, false⟩
def cnT (N : List Str) : Cn := ⟨g.gl, g.fld, N, true⟩

def cname (k : Nat) : Str := match g.cls[k]? with
  | some (x, _) => x
  | none => ""
def xname (k : Nat) : Str := match g.exs[k]? with
  | some x => x
  | none => ""
def px (K : PySem.W.Frag) (w : World) : Px := ⟨K, fun k => He.ga K (g.cname k), fun k => He.ga K (g.xname k), g.cls.length, fun a => ∃ es n, KDict K w a es n⟩
/-- the written dicts: where, their keys -/
def ts : List He.Tab := g.gl.filterMap fun q => match q with
  | (x, .val (.fd ks _)) => some (fun K => He.ga K x, ks.map strV)
  | _ => none
def comp (f : FnI) : Option SL := (cSR (g.cn f.N) (cR (g.cn f.N) 40) 60).sts f.d.scope f.d.body
def tab : Tbl := ⟨g.fns.map fun f => ⟨f.ps.length, f.N.length, (g.comp f).getD .nil⟩, g.cls.map (·.2)⟩
def gfa : Str × GV → List He.Fa
  | (x, .fn _) => [.glo x]
  | (x, .cls k) => [.glo x, .cls x, .mkr x, .keep x] ++ ((g.fld.map fun f => .noat x (nmS f)) ++ (match g.cls[k]? with
    | some (_, cl) => cl.ms.map fun m => .meth x (nmS m.1)
    | none => []))
  | (x, .val (.int i)) => [.int x i]
  | (x, .val (.str s)) => [.str x (nmS s)]
  | (x, .val _) => []
  | (x, .exc _) => [.glo x, .exc x]
  | (x, .blt _) => [.free x]
  | (x, .ty _) => [.free x]
def fa : List He.Fa := g.gl.flatMap g.gfa
def fnAt (i : Nat) (x : Str) (m : Option Str) : Bool := match g.fns[i]? with
  | some fi => decide (fi.d.at_ = (x, m))
  | none => false
def gok : Str × GV → Bool
  | (x, .fn i) => g.fnAt i x none
  | (x, .cls k) => match g.cls[k]? with
    | some (y, cl) => decide (y = x) && (g.fnAt cl.init x (some "__init__") && cl.ms.all fun m => g.fnAt m.2 x (some (nmS m.1)))
    | none => false
  | (x, .val _) => true
  | (x, .exc k) => decide (g.exs[k]? = some x)
  | (x, .blt b) => decide (x = b.name)
  | (x, .ty t) => decide (x = t.name) && !(t.name == "")
def cok : Bool := (List.range g.cls.length).all fun k => match g.gl.lookup (g.cname k) with
  | some (.cls j) => decide (j = k)
  | _ => false
def ok : Bool := g.gl.all g.gok && (g.cok && g.fns.all fun f => (g.comp f).isSome)
end Pg
theorem lookup_mem {α : Type} {x : Str} {v : α} : ∀ {l : List (Str × α)}, l.lookup x = some v → (x, v) ∈ l
  | [], h => by simp at h
  | (y, u) :: r, h => by
    simp only [List.lookup] at h
    split at h
    · rename_i e
      cases h
      rw [eq_of_beq e]
      exact List.mem_cons_self ..
    · exact List.mem_cons_of_mem _ (lookup_mem h)
theorem findM_mem {m : Nm} {f : Nat} : ∀ {l : List (Nm × Nat)}, findM l m = some f → (m, f) ∈ l
  | [], h => by simp [findM] at h
  | (a, b) :: r, h => by
    simp only [findM] at h
    split at h
    · rename_i e
      cases h
      rw [e]
      exact List.mem_cons_self ..
    · exact List.mem_cons_of_mem _ (findM_mem h)
theorem kitOk (K : PySem.W.Frag) : KitOk K where
  b t c h1 h2 := by cases t <;> cases c <;> first | exact (h1 rfl).elim | exact (h2 rfl).elim | kernel_rfl
  n c h := by cases c <;> first | exact (h rfl).elim | kernel_rfl
/-- what the head told -/
structure Told (g : Pg) (w : World) (K : PySem.W.Frag) (mg : Str → Option Value) : Prop where
  ok : g.ok = true
  fa : ∀ f ∈ g.fa, f.ok K = true
  df : ∀ (i : Nat) (fi : FnI), g.fns[i]? = some fi → ∃ fd, FunD K fi.d.name fi.d.qual fi.d.params fi.d.body fi.d.scope [] [] (He.fAd K fi.d.at_) fd
  h : ∃ h : Heap, K.In h ∧ h.Ns mainGlobals mg
  val : ∀ x wv, g.gl.lookup x = some (.val wv) → (match wv with
    | .int _ => True
    | .str _ => True
    | _ => ∃ u v, mg x = some u ∧ RelV v u ∧ ∀ α H, RepV (g.px K w) α H wv v)
/-- the functions, so deep -/
def AllOk (g : Pg) (P : Program) (w : World) (K : PySem.W.Frag) (mg : Str → Option Value) (base : Heap) (T : Tbl) (k : Nat) : Prop :=
  ∀ (i : Nat) (fi : FnI), g.fns[i]? = some fi → ∃ fd, FunD K fi.d.name fi.d.qual fi.d.params fi.d.body fi.d.scope [] [] (He.fAd K fi.d.at_) fd ∧ FnOk P w K mg base (L2.CX P w) (2 * k + 1) (He.fAd K fi.d.at_) fd fi.ps (spI (g.px K w) (callN T k) i)
section
variable {g : Pg} {P : Program} {w : World} {K : PySem.W.Frag} {mg : Str → Option Value} {base : Heap} {T : Tbl} {k : Nat}
theorem Told.fact (t : Told g w K mg) {x : Str} {v : GV} (h : g.gl.lookup x = some v) {f : He.Fa} (hf : f ∈ g.gfa (x, v)) : f.ok K = true :=
  t.fa f (List.mem_flatMap.mpr ⟨_, lookup_mem h, hf⟩)
theorem Told.gok (t : Told g w K mg) {x : Str} {v : GV} (h : g.gl.lookup x = some v) : g.gok (x, v) = true := by
  have := t.ok
  simp only [Pg.ok, Bool.and_eq_true] at this
  exact List.all_eq_true.mp this.1 _ (lookup_mem h)
theorem Told.comp (t : Told g w K mg) {i : Nat} {fi : FnI} (h : g.fns[i]? = some fi) : ∃ b, g.comp fi = some b := by
  have := t.ok
  simp only [Pg.ok, Bool.and_eq_true] at this
  exact Option.isSome_iff_exists.mp (List.all_eq_true.mp this.2.2 _ (List.mem_of_getElem? h))
theorem Told.glo (t : Told g w K mg) {x : Str} (h : (He.Fa.glo x).ok K = true) : mg x = some (.ref (He.ga K x)) := by
  obtain ⟨h', a, b⟩ := t.h
  exact He.glo_ok a b h
theorem Told.free (t : Told g w K mg) {x : Str} (h : (He.Fa.free x).ok K = true) : mg x = none := by
  obtain ⟨h', a, b⟩ := t.h
  exact He.free_ok a b h
theorem fnAt_ok {i : Nat} {x : Str} {m : Option Str} (h : g.fnAt i x m = true) : ∃ fi, g.fns[i]? = some fi ∧ fi.d.at_ = (x, m) := by
  unfold Pg.fnAt at h
  split at h
  · rename_i fi e
    exact ⟨fi, e, of_decide_eq_true h⟩
  · cases h
theorem AllOk.at_ {X : Cx} {lv : Nat} (A : AllOk g P w K mg base T k) (hP : X.prog = P) (hw : X.w = w) (hK : X.K = K) (hm : X.mg = mg) (hb : X.base = base) {i : Nat} {x : Str} {m : Option Str} (h : g.fnAt i x m = true) : FnAt (g.px K w) (callN T k) (2 * k + 1) X (He.fAd K (x, m)) i := by
  subst hP hw hK hm hb
  obtain ⟨fi, e, ea⟩ := fnAt_ok h
  obtain ⟨fd, F, O⟩ := A i fi e
  rw [ea] at F O
  refine ⟨⟨fd, fi.ps, O, ?_⟩, F.kp⟩
  exact F.bindsN fi.bd
theorem cls_fact (t : Told g w K mg) {k : Nat} {y : Str} {cl : Cl} (h : g.cls[k]? = some (y, cl)) : g.gl.lookup y = some (.cls k) := by
  have := t.ok
  simp only [Pg.ok, Bool.and_eq_true] at this
  have h2 := List.all_eq_true.mp this.2.1 k (List.mem_range.mpr (List.getElem?_eq_some_iff.mp h).1)
  have hc : g.cname k = y := by simp only [Pg.cname, h]
  rw [hc] at h2
  split at h2
  · rename_i j e
    rw [e, of_decide_eq_true h2]
  · cases h2
theorem facts_of (t : Told g w K mg) (A : AllOk g P w K mg base T k) (hT : T.cls = g.cls.map (·.2)) {X : Cx} (N : List Str) (hP : X.prog = P) (hw : X.w = w) (hK : X.K = K) (hm : X.mg = mg) (hb : X.base = base) : Facts (g.px K w) T (callN T k) (2 * k + 1) (g.cn N) X := by
  have hc : (g.cn N).gl = g.gl := rfl
  have clx : ∀ {c : Nat} {cl : Cl}, T.cls[c]? = some cl → ∃ y, g.cls[c]? = some (y, cl) := by
    intro c cl h
    rw [hT, List.getElem?_map, Option.map_eq_some_iff] at h
    obtain ⟨⟨y, cl'⟩, e, rfl⟩ := h
    exact ⟨y, e⟩
  have ca : ∀ {c : Nat} {y : Str} {cl : Cl}, g.cls[c]? = some (y, cl) → (g.px K w).ca c = He.ga K y := by
    intro c y cl h
    show He.ga K (g.cname c) = _
    simp only [Pg.cname, h]
  refine ⟨?_, ?_, ?_, ?_, ?_, ?_, ⟨?_⟩, ?_, hK ▸ kitOk K⟩
  · intro x i h
    exact ⟨He.ga K x, by rw [hm]; exact t.glo (t.fact h (by simp [Pg.gfa])), A.at_ (lv := 0) hP hw hK hm hb (t.gok h)⟩
  · intro x c h
    have g1 := t.gok h
    simp only [Pg.gok] at g1
    split at g1
    · rename_i y cl e
      simp only [Bool.and_eq_true, decide_eq_true_eq] at g1
      obtain ⟨rfl, g2, g3⟩ := g1
      rw [ca e]
      refine ⟨by rw [hm]; exact t.glo (t.fact h (by simp [Pg.gfa])), ⟨?_, (List.getElem?_eq_some_iff.mp e).1⟩, by rw [hK]; exact t.fact (f := .keep y) h (by simp [Pg.gfa])⟩
      obtain ⟨⟨fd, ps, F, B⟩, kp⟩ := A.at_ (X := X) (lv := 0) hP hw hK hm hb g2
      refine ⟨cl, _, fd, ps, by rw [hT, List.getElem?_map, e]; rfl, ?_, F, B⟩
      rw [ca e, hK]
      exact He.mkr_ok (t.fact h (by simp [Pg.gfa]))
    · cases g1
  · intro x v h
    have hv := t.val x v h
    cases v with
    | int i =>
      obtain ⟨h', a, b⟩ := t.h
      obtain ⟨u, e⟩ := He.int_ok a b (t.fact (f := .int x i) h (by simp [Pg.gfa]))
      exact ⟨_, .int i, by rw [hm]; exact e, ⟨_, rfl⟩, fun α H => .int⟩
    | str s =>
      obtain ⟨h', a, b⟩ := t.h
      obtain ⟨u, e⟩ := He.str_ok a b (t.fact (f := .str x (nmS s)) h (by simp [Pg.gfa]))
      exact ⟨_, .str (nmS s), by rw [hm]; exact e, ⟨_, rfl⟩, fun α H => by simp only [RepV]⟩
    | _ => exact hm ▸ hv
  · intro x c h
    have g1 := t.gok h
    simp only [Pg.gok, decide_eq_true_eq] at g1
    have e1 : (g.px K w).xa c = He.ga K x := by
      show He.ga K (g.xname c) = _
      simp only [Pg.xname, g1]
    rw [e1, hK]
    obtain ⟨a1, a2, a3, a4⟩ := He.exc_ok (t.fact (f := .exc x) h (by simp [Pg.gfa]))
    exact ⟨by rw [hm]; exact t.glo (t.fact h (by simp [Pg.gfa])), a1, a2, raises_own (by rw [hK]; exact a3) (by rw [hK]; exact a4)⟩
  · intro x b h
    have g1 := t.gok h
    simp only [Pg.gok, decide_eq_true_eq] at g1
    exact ⟨g1, by rw [hm]; exact t.free (t.fact h (by simp [Pg.gfa]))⟩
  · intro x y h
    have g1 := t.gok h
    simp only [Pg.gok, Bool.and_eq_true, decide_eq_true_eq, Bool.not_eq_true', beq_eq_false_iff_ne] at g1
    exact ⟨g1.1, by rw [hm]; exact t.free (t.fact h (by simp [Pg.gfa])), g1.2⟩
  · intro c cl m f h1 h2
    obtain ⟨y, e⟩ := clx h1
    have h := cls_fact t e
    have g1 := t.gok h
    simp only [Pg.gok, e, Bool.and_eq_true, decide_eq_true_eq] at g1
    obtain ⟨_, g2, g3⟩ := g1
    have g4 := List.all_eq_true.mp g3 _ (findM_mem h2)
    rw [ca e, hK]
    refine ⟨He.cls_ok (t.fact h (by simp [Pg.gfa])), _, He.meth_ok (m := nmS m) (t.fact h ?_), A.at_ (lv := 0) hP hw hK hm hb g4⟩
    simp only [Pg.gfa, e, List.mem_append, List.mem_map]
    exact .inr (.inr ⟨_, findM_mem h2, rfl⟩)
  · intro f hf c hcl
    obtain ⟨⟨y, cl⟩, e⟩ : ∃ z, g.cls[c]? = some z := ⟨_, List.getElem?_eq_getElem hcl⟩
    have h := cls_fact t e
    rw [ca e]
    refine ⟨He.cls_ok (t.fact h (by simp [Pg.gfa])), He.noat_ok (t.fact h ?_)⟩
    simp only [Pg.gfa, List.mem_append, List.mem_map]
    exact .inr (.inl ⟨f, by have h5 : g.fld.contains f = true := hf; simpa using h5, rfl⟩)
theorem all_ok (t : Told g w K mg) (hT : T = g.tab) : ∀ k, AllOk g P w K mg base T k := by
  intro k
  induction k with
  | zero =>
    intro i fi e
    obtain ⟨fd, F⟩ := t.df i fi e
    refine ⟨fd, F, F.ok fi.sc (fun vs H Q E h => ?_) fun cdv A outer s H vs Q E hr h => ?_⟩
    all_goals
      obtain ⟨α, g', ws, _, _, q⟩ := h
      exact q.elim
  | succ k ih =>
    intro i fi e
    obtain ⟨fd, F⟩ := t.df i fi e
    obtain ⟨b, hb⟩ := t.comp e
    have hfn : T.fns[i]? = some ⟨fi.ps.length, fi.N.length, b⟩ := by
      rw [hT]
      show (g.fns.map _)[i]? = _
      rw [List.getElem?_map, e]
      simp only [Option.map_some, hb, Option.getD_some]
    have hrun : ∀ ws g', callN T (k + 1) i ws g' = Fn.run T (callN T k) ⟨fi.ps.length, fi.N.length, b⟩ ws g' := by
      intro ws g'
      simp only [callN, hfn]
    refine ⟨fd, F, F.ok (k := 2 * k + 2) fi.sc (fun vs H Q E h => ?_) fun cdv A outer s H vs Q E hr h => ?_⟩
    · obtain ⟨α, g', ws, S, r, q⟩ := h
      rw [hrun] at q
      unfold Fn.run at q
      split at q
      · rename_i hl
        rw [← r.length]; exact hl
      · exact q.elim
    · obtain ⟨α, g', ws, S, r, q⟩ := h
      rw [hrun] at q
      refine ⟨_, (sndS (snd 40) 60).sts (p := g.px K w) (T := T) (call := callN T k) (lv := 2 * k + 1) (c := g.cn fi.N) (Wx := fun cls d _ H' => E cls d H') (sc := fi.d.scope) ?_ (fun _ _ => rfl) hb, body_run rfl S r q⟩
      exact ⟨rfl, fun a h => h, (fun h => nomatch h), rfl, rfl, fi.sc.nd, rfl, takes_of rfl rfl rfl rfl, passes_of rfl, hr, facts_of t ih (by rw [hT]; rfl) fi.N rfl rfl rfl rfl rfl⟩
end
end Dl

/-! DlR: from what the head tells to a law's answer. -/
namespace Dl
open PySem L2
mutual
/-- the written part's value is that value -/
def repB (K : PySem.W.Frag) : W → Value → Bool
  | .non, .none => true
  | .bl b, .bool c => b == c
  | .int i, .int j _ => decide (i = j)
  | .str s, .str y _ => decide (strV s = y)
  | .tup ws, .ref a => match K.lookup a with
    | some ⟨.type c, _, .seq its _, _⟩ => decide (c = "tuple") && (decide (its.size ≤ sizeLine) && repsB K ws its.toList)
    | _ => false
  | _, _ => false
def repsB (K : PySem.W.Frag) : List W → List Value → Bool
  | [], [] => true
  | w :: r, u :: q => repB K w u && repsB K r q
  | _, _ => false
end
mutual
theorem repB_ok {p : Px} : ∀ {w : W} {u : Value}, repB p.K w u = true → ∃ v, RelV v u ∧ ∀ α H, RepV p α H w v
  | .non, u, h => by
    cases u <;> simp [repB] at h
    exact ⟨.non, rfl, fun α H => by simp only [RepV]⟩
  | .bl b, u, h => by
    cases u <;> simp [repB] at h
    subst h
    exact ⟨.bl b, rfl, fun α H => by simp only [RepV]⟩
  | .int i, u, h => by
    cases u <;> simp [repB] at h
    subst h
    exact ⟨.int i, ⟨_, rfl⟩, fun α H => by simp only [RepV]⟩
  | .str s, u, h => by
    cases u <;> simp [repB] at h
    subst h
    exact ⟨.str _, ⟨_, rfl⟩, fun α H => by simp only [RepV]⟩
  | .tup ws, u, h => by
    cases u <;> simp only [repB] at h <;> try (cases h; done)
    rename_i a
    split at h
    · rename_i c dd its n sl e
      simp only [Bool.and_eq_true, decide_eq_true_eq] at h
      obtain ⟨rfl, h2, h3⟩ := h
      obtain ⟨vs, r, R⟩ := repsB_ok h3
      refine ⟨.ref a, rfl, fun α H => ?_⟩
      simp only [RepV]
      exact ⟨a, vs, rfl, .inr ⟨_, its, n, e, rfl, rfl, h2, r⟩, R α H⟩
    · cases h
  | .ref _, u, h => by cases u <;> simp [repB] at h
  | .exn _, u, h => by cases u <;> simp [repB] at h
  | .fl _, u, h => by cases u <;> simp [repB] at h
  | .fd _ _, u, h => by cases u <;> simp [repB] at h
theorem repsB_ok {p : Px} : ∀ {ws : List W} {us : List Value}, repsB p.K ws us = true → ∃ vs, Vals vs us ∧ ∀ α H, RepVs p α H ws vs
  | [], us, h => by
    cases us with
    | nil => exact ⟨[], .nil, fun α H => .nil⟩
    | cons _ _ => simp [repsB] at h
  | w :: ws, us, h => by
    cases us with
    | nil => simp [repsB] at h
    | cons u us =>
      simp only [repsB, Bool.and_eq_true] at h
      obtain ⟨v, r, R⟩ := repB_ok h.1
      obtain ⟨vs, r2, R2⟩ := repsB_ok h.2
      exact ⟨v :: vs, .cons r r2, fun α H => .cons (R α H) (R2 α H)⟩
end
/-- the entries of a written dict -/
def entB (es : List PySem.DictEntry) (ks : List (List Nat)) : Bool := match es, ks with
  | [], [] => true
  | e :: r, k :: q => (match e.key with | .str y _ => decide (strV k = y) | _ => false) && entB r q
  | _, _ => false
theorem ent_find (z : List Nat) : ∀ {es : List PySem.DictEntry} {ks : List (List Nat)}, entB es ks = true → es.length = ks.length ∧
    (match es.find? (·.key.isStr (strV z)) with
      | some e => some (some e.val)
      | none => if es.any (·.refKey) then none else some none) = some ((ks.zip (es.map (·.val))).lookup z)
  | [], [], _ => ⟨rfl, rfl⟩
  | e :: r, k :: q, h => by
    simp only [entB, Bool.and_eq_true] at h
    obtain ⟨h1, h2⟩ := ent_find z h.2
    have h0 := h.1
    obtain ⟨hsh, key, vl⟩ := e
    cases key <;> simp only at h0 <;> try (cases h0; done)
    rename_i y t
    have h0 := of_decide_eq_true h0
    subst h0
    refine ⟨by simp [h1], ?_⟩
    by_cases hz : z = k
    · subst hz
      simp [List.find?_cons, Value.isStr, List.lookup_cons]
    · have e1 : (strV k == strV z) = false := by rw [strV_beq]; exact beq_eq_false_iff_ne.mpr fun e => hz e.symm
      have e2 : (z == k) = false := beq_eq_false_iff_ne.mpr hz
      have e3 : PySem.DictEntry.refKey ⟨hsh, .str (strV k) t, vl⟩ = false := rfl
      have e4 : (Value.str (strV k) t).isStr (strV z) = false := e1
      simp only [List.find?_cons, e4, List.map_cons, List.zip_cons_cons, List.lookup_cons, e2, List.any_cons, e3, Bool.false_or]
      exact h2
  | [], _ :: _, h => by simp [entB] at h
  | _ :: _, [], h => by simp [entB] at h
def valB (K : PySem.W.Frag) : Str × GV → Bool
  | (_, .val (.int _)) => true
  | (_, .val (.str _)) => true
  | (x, .val (.fd ks ws)) => He.eqO (PySem.W.nsIn K mainGlobals x) (some (some (.ref (He.ga K x)))) && (match K.lookup (He.ga K x) with
    | some ⟨_, _, .dict es _, _⟩ => entB es.toList ks && repsB K ws (es.toList.map (·.val))
    | _ => false)
  | (x, .val w) => match PySem.W.nsIn K mainGlobals x with
    | some (some u) => repB K w u
    | _ => false
  | _ => true
def Pg.ex (g : Pg) (K : PySem.W.Frag) : Bool := g.gl.all (valB K)
theorem told_of {g : Pg} {K : PySem.W.Frag} {h : Heap} {mg : Str → Option Value} {w : World} {fa : List He.Fa} {dfs : List He.DefD} (ok : g.ok = true) (hfa : ∀ f ∈ g.fa, f ∈ fa) (hdf : ∀ (i : Nat) (fi : FnI), g.fns[i]? = some fi → dfs[i]? = some fi.d) (X : K.In h) (G : h.Ns mainGlobals mg) (c : He.SaysX fa dfs g.ts [] g.ex w h K) : Told g w K mg := by
  refine ⟨ok, fun f hf => c.t.d.facts (hfa f hf), fun i fi e => ?_, ⟨h, X, G⟩, fun x v hl => ?_⟩
  · obtain ⟨fd, F⟩ := c.t.d.def_ i (d := fi.d) (hdf i fi e)
    have e1 : fi.d.dvs K = [] := by simp only [He.DefD.dvs, fi.d0, List.map_nil]
    have e2 : fi.d.kws K = [] := by simp only [He.DefD.kws, fi.k0, List.map_nil]
    rw [e1, e2] at F
    exact ⟨fd, F⟩
  · have hx := List.all_eq_true.mp (show g.gl.all (valB K) = true from c.more) _ (lookup_mem hl)
    have gen : ∀ wv : W, (match PySem.W.nsIn K mainGlobals x with
        | some (some u) => repB K wv u
        | _ => false) = true → ∃ u v, mg x = some u ∧ RelV v u ∧ ∀ α H, RepV (g.px K w) α H wv v := by
      intro wv hx
      split at hx
      · rename_i u e
        obtain ⟨v, r, R⟩ := repB_ok (p := g.px K w) hx
        exact ⟨u, v, PySem.W.mg_of X G e, r, R⟩
      · cases hx
    cases v with
    | int _ => trivial
    | str _ => trivial
    | fd ks ws =>
      simp only [valB, Bool.and_eq_true] at hx
      obtain ⟨hx1, hx⟩ := hx
      split at hx
      · rename_i cl dd es n sl e
        simp only [Bool.and_eq_true] at hx
        obtain ⟨vs, r, R⟩ := repsB_ok (p := g.px K w) hx.2
        have hm : ∃ i : Nat, g.ts[i]? = some (fun K => He.ga K x, ks.map strV) := by
          apply List.mem_iff_getElem?.mp
          exact List.mem_filterMap.mpr ⟨_, lookup_mem hl, rfl⟩
        obtain ⟨i, hi⟩ := hm
        obtain ⟨es', n', D⟩ := c.t.tab i hi
        refine ⟨.ref (He.ga K x), .ref (He.ga K x), PySem.W.mg_of X G (He.eqO_ok hx1), rfl, fun α H => ?_⟩
        simp only [RepV]
        refine ⟨_, es.toList.map (·.val), vs, rfl, ⟨es', n', D⟩, r, by simpa using (ent_find [] hx.1).1, fun z => ?_, R α H⟩
        show PySem.W.nsIn K _ _ = _
        unfold PySem.W.nsIn
        rw [e]
        exact (ent_find z hx.1).2
      · cases hx
    | non => exact gen _ hx
    | bl b => exact gen _ hx
    | tup ws => exact gen _ hx
    | ref _ => exact gen _ hx
    | exn _ => exact gen _ hx
    | fl _ => exact gen _ hx
/-- walk_ofE, where what a def may let out is told by the world -/
theorem walk_w {l : PySem.W.OpenLaw} {top k : Nat} {q : Program} {names : List Str} {XP : (Str → Option Value) → Heap → Prop} {YP : World → Heap → Prop} {d : DefRec} {CX : World → CXT} {x : Str}
    (h1 : l.most = some top) (h2 : top ≤ sizeLine) (h3 : d.params.defaults = []) (room : Room k callerA)
    (F : ∀ (w : World) (mg : Str → Option Value) (f : Addr) (h : Heap), YP w h → h.Ns mainGlobals mg → mg d.name = some (.ref f) →
      ∃ (K : PySem.W.Frag) (fd : FuncData) (sp : Sp), K.In h ∧ (∀ (s : Shared) (u : Value), BindsTo s fd ⟨[u], []⟩ [(x, u)]) ∧
        (∀ (H : Hp) (a : Addr) (ns : List Int), ns.length ≤ top → Only H → SqL K H a (ns.map V.int) → sp [.ref a] H (fun v _ => v = .bl true) fun _ _ _ => False) ∧
        ∀ base : Heap, K.In base → base.Ns mainGlobals mg → FnOk l.prog w K mg base (CX w) k f fd [x] sp)
    (none : ∀ (w : World) (H : Hp) (s : Shared) (e : Value) (s' : Shared), CX w [] H s (fun _ _ _ => False) e s' → False) : PySem.W.WalkO q names XP YP l.row.toRowW d [] (fun f vs => PySem.call f vs) := by
  refine Att.attach_call h1 h3 fun w s₀ s₁ mg mb f o pm cd doc a vs ns G Y ho hd hcd hmg hobj hints hlen hg => ?_
  obtain ⟨K, fd, sp, KX, hb, hsp, hF⟩ := F w mg f _ Y G.T.g hmg
  exact law_call KX G.T.g G.T.b G.T.builtins G.T.nolimit hg hobj hints (Nat.le_trans hlen h2) room hF hb (fun H hO hS => hsp H a ns hlen hO hS) fun H e s' => none w H s₁ e s'
theorem cx_none {P : Program} {w : World} {o : List PySem.Env} {H : Hp} {s : Shared} {e : Value} {s' : Shared} (h : L2.CX P w o H s (fun _ _ _ => False) e s') : False := by
  obtain ⟨_, _, _, _, _, _, _, _, _, _, _, _, _, z⟩ := h
theorem only_fl {K : PySem.W.Frag} {H : Hp} {a : Addr} {ns : List Int} (hO : Only H) (hS : SqL K H a (ns.map V.int)) : SqF K H a (ns.map V.int) := by
  rcases hS with (h | h) | h
  · rcases hO a with n | ⟨o, xs, n⟩ <;> rw [h] at n <;> cases n
  · exact .inl h
  · exact .inr h
/-- THE END: the interpreter's answer is the law's -/
theorem law_of {g : Pg} {T : Tbl} {P : Program} {w : World} {K : PySem.W.Frag} {mg : Str → Option Value} {h : Heap} {f : Addr} {k i top : Nat} {fi : FnI} {x : Str} (hT : T = g.tab) (ok : g.ok = true) (X : K.In h) (G : h.Ns mainGlobals mg) (c : He.SaysX g.fa (g.fns.map (·.d)) g.ts [] g.ex w h K)
    (hi : g.fns[i]? = some fi) (hp : fi.ps = [x]) (hat : He.fAd K fi.d.at_ = f)
    (law : ∀ ns : List Int, ns.length ≤ top → ∃ g', callN T k i [.fl (ns.map W.int)] [] = .ok (.bl true) g') :
    ∃ (fd : FuncData) (sp : Sp), (∀ (s : Shared) (u : Value), BindsTo s fd ⟨[u], []⟩ [(x, u)]) ∧
      (∀ (H : Hp) (a : Addr) (ns : List Int), ns.length ≤ top → Only H → SqL K H a (ns.map V.int) → sp [.ref a] H (fun v _ => v = .bl true) fun _ _ _ => False) ∧
      ∀ base : Heap, K.In base → base.Ns mainGlobals mg → FnOk P w K mg base (L2.CX P w) (2 * k + 1) f fd [x] sp := by
  have t := told_of ok (fun _ h => h) (fun i fi e => by rw [List.getElem?_map, e]; rfl) X G c
  obtain ⟨fd0, F0⟩ := t.df i fi hi
  have key : ∀ base : Heap, FnOk P w K mg base (L2.CX P w) (2 * k + 1) f fd0 [x] (spI (g.px K w) (callN T k) i) := by
    intro base
    obtain ⟨fd, F, O⟩ := all_ok (P := P) (w := w) (base := base) t hT k i fi hi
    rw [hat, hp] at O
    have : fd = fd0 := by
      obtain ⟨_, _, _, _, _, _, _, _, _, _, _, l1, _⟩ := F.ex
      obtain ⟨_, _, _, _, _, _, _, _, _, _, _, l2, _⟩ := F0.ex
      rw [l1] at l2
      cases l2
      rfl
    exact this ▸ O
  refine ⟨fd0, _, ?_, ?_, fun base _ _ => key base⟩
  · intro s u
    have b := F0.bindsA fi.bd s [u] (by rw [hp]; rfl)
    rw [hp] at b
    exact b
  · intro H a ns hl hO hS
    obtain ⟨g', e⟩ := law ns hl
    refine ⟨[], [], [.fl (ns.map W.int)], ⟨rfl, fun i o a h => (by simp at h), by simp⟩, .cons (by
      simp only [RepV]
      exact ⟨a, ns.map V.int, rfl, only_fl hO hS, rep_ints⟩) .nil, ?_⟩
    rw [e]
    intro α' H' v _ _ r
    exact r.bl'
end Dl

/-! DlW: the law's own run, called by nothing but the claim: no repr is under way. -/
namespace Dl
open PySem PySem.Spec PyProof.Rows L2
theorem room_caller {k : Nat} (h : 3 * k + 6 + claimMargin < recursionLimit) (h2 : 16 * k + 204 < cLine) : Room k callerA := ⟨rfl, by show 1 + claimMargin + 3 * k + 5 < _; omega, by show 4 + 16 * k + 200 < _; omega⟩
/-- nothing is tracked but the script -/
theorem only_script {P : Program} {w : World} {K : PySem.W.Frag} {s : Shared} {a : Addr} {vs : List Value} {ns : List Int} (KX : K.In s.heap) (ha : s.heap.get? a = some { cls := .type "list", data := .seq vs.toArray }) (hi : IntsAre vs ns) (hl : ns.length ≤ sizeLine) :
    ∃ H : Hp, Only H ∧ SqL K H a (ns.map V.int) ∧ HOk P w H s.heap ∧ ∀ b, H b ≠ none → b = a ∧ K.lookup a = none := by
  have rv := vals_ints hi
  cases hk : K.lookup a with
  | some o =>
    have e := KX a o hk
    rw [ha] at e
    cases e
    refine ⟨fun _ => none, fun _ => .inl rfl, .inr ⟨_, vs.toArray, _, hk, rfl, rfl, rfl, ?_, by simpa using rv⟩, fun b u z => ?_, fun b z => absurd rfl z⟩
    · rw [List.size_toArray, hi.length]; exact hl
    · have z2 : (none : Option HO) = some u := z
      cases z2
  | none =>
    refine ⟨fun b => if b = a then some (.frz { cls := .type "list", data := .seq vs.toArray } (.lst (ns.map V.int))) else none, fun b => ?_, .inl (.inr ⟨_, if_pos rfl⟩), fun b u z => ?_, fun b z => ⟨?_, rfl⟩⟩
    · rcases Decidable.em (b = a) with e | e
      · exact .inr ⟨_, _, if_pos e⟩
      · exact .inl (if_neg e)
    · rcases Decidable.em (b = a) with e | e
      · have z2 := (if_pos e).symm.trans z
        cases z2
        subst e
        exact ⟨ha, by rw [List.length_map]; exact hl, vs, _, rv, ha⟩
      · exact nomatch (if_neg e).symm.trans z
    · rcases Decidable.em (b = a) with e | e
      · exact e
      · exact absurd (if_neg e) z
def yes : VK := fun v _ => v = .bl true
theorem law_top {P : Program} {w : World} {K : PySem.W.Frag} {mg mb : Str → Option Value} {CX : CXT} {k : Nat} {fa a : Addr} {fd : FuncData} {x qx qual : Str} {params : Arguments} {body : List Stmt} {scope : Scope} {N : List Str} {s₁ : Shared} {vs : List Value} {ns : List Int}
    (KX : K.In s₁.heap) (gl : s₁.heap.Ns mainGlobals mg) (bl : s₁.heap.Ns builtinsNs mb) (bb : ∀ x : Str, x ≠ "__name__" → mb x = bootBuiltins x) (nl : s₁.heap.NoLimit) (gn : s₁.gens = #[])
    (ha : s₁.heap.get? a = some { cls := .type "list", data := .seq vs.toArray }) (hi : IntsAre vs ns) (hl : ns.length ≤ sizeLine) (hr : Room (k + 1) callerA)
    (F : FunD K qx qual params body scope [] [] fa fd) (S : FnScope N [x] scope) (hbind : ∀ (s : Shared) (u : Value), BindsTo s fd ⟨[u], []⟩ [(x, u)])
    (walk : ∀ (base : Heap) (cdv : Value) (s : Shared) (H : Hp), Room k (callerA.deeper (envOfC qual scope s.heap.objs.size fa cdv)) → Only H → SqL K H a (ns.map V.int) →
      ∃ t, PSs (cxOf CX P w K mg base N qual scope fa cdv callerA [] s H fun _ _ _ => False) body t ∧ t { nx := fun _ H' => yes .non H', rt := yes } (L2.start N [.ref a]) H)
    (noX : ∀ H e s', CX [] H s₁ (fun _ _ _ => False) e s' → False) :
    codeAny (model P w) callerA (.call (.ref fa) ⟨[.ref a], []⟩) (fun r s' => r = .ok (.ret (.bool true)) ∧ OldK s₁.heap s'.heap ∧ s'.os = s₁.os ∧ AllBare s'.gens) s₁ := by
  obtain ⟨H, hO, hS, hok, hA⟩ := only_script (P := P) (w := w) KX ha hi hl
  have up : ∀ {b : Addr} {o : Obj}, s₁.heap.get? b = some o → (∀ vs n, o.data ≠ .seq vs n) → (hidT s₁.heap H).get? b = some o := fun {b o} e d => by
    refine hidT_get e ?_
    cases q : H b with
    | none => rfl
    | some u =>
      obtain ⟨rfl, _⟩ := hA b (by rw [q]; simp)
      rw [ha] at e
      cases e
      exact absurd rfl (d _ _)
  have upN : ∀ {b : Addr} {m : Str → Option Value}, s₁.heap.Ns b m → (hidT s₁.heap H).Ns b m := fun ⟨o, es, ep, e, d, r⟩ => ⟨o, es, ep, up e (fun vs n z => by rw [d] at z; cases z), d, r⟩
  have KB : K.In (hidT s₁.heap H) := fun b o e => hidT_get (KX b o e) (by
    cases q : H b with
    | none => rfl
    | some u =>
      obtain ⟨rfl, z⟩ := hA b (by rw [q]; simp)
      rw [z] at e; cases e)
  have md : Mod K mg (hidT s₁.heap H) := ⟨KB, upN gl, ⟨mb, upN bl, bb⟩, let ⟨m, u, v⟩ := nl; ⟨m, upN u, v⟩⟩
  have e0 : Env0 P w K mg (hidT s₁.heap H) callerA [] s₁ H := ⟨rfl, md, fun b o e => of_hidT e, Nat.le_of_eq (hidT_size _ _), trivial, (fun b hb => (List.not_mem_nil hb).elim), hok, .of_eq gn⟩
  obtain ⟨oc, od, dV, kV, doc, pm, an, cdv, ct, osl, rfl, lk, cr, _, _⟩ := F.ex
  have loc : ∀ y ∈ [x].zip [Value.ref a], scope.names.lookup y.1 = some .local ∨ (scope.names.lookup y.1 = some .cell ∧ ((cellsFrom (s₁.heap.objs.size + 1) scope.names []).lookup y.1).isSome = true) := fun ⟨n, v⟩ hy => by
    rcases S.par n (List.of_mem_zip hy).1 with q | q
    · exact .inl q
    · exact .inr ⟨q, PySem.W.cellsFrom_some _ _ _ (.inl q)⟩
  refine codeAny_call_function hr.depth (KX _ _ lk) rfl S.co S.gen rfl (PySem.W.codeRec_of KX cr) (hbind s₁ (.ref a) _ _ _ _ ?_)
  refine wpAny_newFunctionEnv_cells S.kind loc fun env he s1 cl => ?_
  subst he
  refine ⟨nl.keeps cl.toInCall.keep, codeAny_func ?_⟩
  obtain ⟨t, ht, hq⟩ := walk (hidT s₁.heap H) cdv s₁ H (hr.deeper _) hO hS
  have I := inv_start (CX := CX) (E := fun _ _ _ => False) S hr.hd e0 rfl (.cons (show RelV (V.ref a) (Value.ref a) from rfl) .nil) cl
  refine wpAny_mono (ht.run [] s1 _ H _ I hq) (fun fl s' h => ?_) fun e s' h => wpAny_mono h (fun _ s2 z => (noX H e s2 z).elim) fun e2 s2 z => (noX H e2 s2 z).elim
  cases fl with
  | ret u =>
    obtain ⟨v, σ', H', J, r, q⟩ := h
    have q : v = .bl true := q
    subst q
    obtain rfl : u = Value.bool true := r
    refine ⟨rfl, OldK.of_keep fun b o e => ?_, J.os, J.bare⟩
    cases q : H b with
    | none => exact J.base.keep b o e q (fun z => nomatch z) (fun z => nomatch z)
    | some u =>
      rcases hO b with z | ⟨ob, xs, z⟩
      · rw [q] at z; cases z
      · have z2 := J.base.frzs b ob _ z
        obtain ⟨e1, _⟩ := hok b _ z
        obtain ⟨e2, _⟩ := J.hok b _ z2
        rw [e] at e1
        cases e1
        exact e2
  | next =>
    obtain ⟨_, _, _, q⟩ := h
    have q : V.non = V.bl true := q
    cases q
  | brk => obtain ⟨_, _, _, q⟩ := h; exact q.elim
  | cont => obtain ⟨_, _, _, q⟩ := h; exact q.elim
end Dl

/-! DlX: the end of a law whose own def asks for repr: it stands by itself, beside the table. -/
namespace Dl
open PySem L2
def Pg.compT (g : Pg) (f : FnI) : Option SL := (cSR (g.cnT f.N) (cR (g.cnT f.N) 40) 60).sts f.d.scope f.d.body
theorem yes_go {p : Px} {a : Addr} {K : PySem.W.Frag} (hK : p.K = K) {T : Tbl} {call : CallF} {N : List Str} {b : SL} {ns : List Int} {H : Hp} {E : XK} (hO : Only H) (hS : SqL K H a (ns.map V.int)) {g' : G} (e : Fn.run T call ⟨1, N.length, b⟩ [.fl (ns.map W.int)] [] = .ok (.bl true) g') :
    tXs p (fun cls d _ H' => E cls d H') T call b { nx := fun _ H' => yes .non H', rt := yes } (L2.start N [.ref a]) H := by
  refine body_run (f := ⟨1, N.length, b⟩) (ws := [.fl (ns.map W.int)]) (g := []) (α := []) rfl ⟨rfl, fun i o a h => (by simp at h), by simp⟩ (.cons ?_ .nil) ?_
  · simp only [RepV]
    exact ⟨a, ns.map V.int, rfl, only_fl hO (hK ▸ hS), rep_ints⟩
  · rw [e]
    intro α' H' v _ _ r
    exact r.bl'
theorem walk_t {l : PySem.W.OpenLaw} {top k : Nat} {q : Program} {names : List Str} {XP : (Str → Option Value) → Heap → Prop} {YP : World → Heap → Prop} {d : DefRec} {x : Str} {g : Pg} {fl : FnI} {b : SL} {T : Tbl}
    (h1 : l.most = some top) (h2 : top ≤ sizeLine) (h3 : d.params.defaults = []) (room : Room (2 * k + 3) callerA) (hT : T = g.tab) (hb : g.compT fl = some b) (hp : fl.ps = [x])
    (F : ∀ (w : World) (mg : Str → Option Value) (f : Addr) (h : Heap), YP w h → h.Ns mainGlobals mg → mg d.name = some (.ref f) →
      ∃ (K : PySem.W.Frag) (fd : FuncData), K.In h ∧ FunD K fl.d.name fl.d.qual fl.d.params fl.d.body fl.d.scope [] [] f fd ∧ Told g w K mg)
    (law : ∀ ns : List Int, ns.length ≤ top → ∃ g', Fn.run T (callN T k) ⟨1, fl.N.length, b⟩ [.fl (ns.map W.int)] [] = .ok (.bl true) g') : PySem.W.WalkO q names XP YP l.row.toRowW d [] (fun f vs => PySem.call f vs) := by
  refine Att.attach_call h1 h3 fun w s₀ s₁ mg mb f o pm cd doc a vs ns G Y ho hd hcd hmg hobj hints hlen hg => ?_
  obtain ⟨K, fd, KX, FD, t⟩ := F w mg f _ Y G.T.g hmg
  refine law_top (k := 2 * k + 2) (CX := L2.CX l.prog w) (x := x) KX G.T.g G.T.b G.T.builtins G.T.nolimit hg hobj hints (Nat.le_trans hlen h2) room FD (hp ▸ fl.sc) (fun s u => ?_) (fun base cdv s H hr hO hS => ?_) fun H e s' z => cx_none z
  · have q := FD.bindsA fl.bd s [u] (by rw [hp]; rfl)
    rw [hp] at q
    exact q
  · obtain ⟨g', e⟩ := law ns hlen
    refine ⟨_, (sndS (snd 40) 60).sts (p := g.px K w) (T := T) (call := callN T k) (lv := 2 * k + 1) (c := g.cnT fl.N) (Wx := fun cls d _ H' => False) (sc := fl.d.scope) ?_ (fun _ _ => rfl) hb, yes_go (E := fun _ _ _ => False) rfl hO hS e⟩
    have fs := facts_of (X := cxOf (L2.CX l.prog w) l.prog w K mg base fl.N fl.d.qual fl.d.scope f cdv callerA [] s H fun _ _ _ => False) t (all_ok (P := l.prog) (base := base) t hT k) (by rw [hT]; rfl) fl.N rfl rfl rfl rfl rfl
    exact ⟨rfl, fun a h => h, fun _ => rfl, rfl, rfl, fl.sc.nd, rfl, takes_of rfl rfl rfl rfl, passes_of rfl, hr, ⟨fs.fn, fs.cls, fs.val, fs.exc, fs.blt, fs.ty, fs.m, fs.fld, fs.kit⟩⟩
theorem dfs_of {l : List FnI} {x : He.DefD} (i : Nat) (fi : FnI) (e : l[i]? = some fi) : (l.map (·.d) ++ [x])[i]? = some fi.d := by
  have h := (List.getElem?_eq_some_iff.mp e).1
  rw [List.getElem?_append_left (by simpa using h), List.getElem?_map, e]; rfl
theorem law_def {g : Pg} {fl : FnI} {fa : List He.Fa} {w : World} {K : PySem.W.Frag} {h : Heap} (c : He.SaysX fa (g.fns.map (·.d) ++ [fl.d]) g.ts [] g.ex w h K) : ∃ fd, FunD K fl.d.name fl.d.qual fl.d.params fl.d.body fl.d.scope [] [] (He.fAd K fl.d.at_) fd := by
  obtain ⟨fd, F⟩ := c.t.d.def_ g.fns.length (d := fl.d) (by simp)
  have e1 : fl.d.dvs K = [] := by simp only [He.DefD.dvs, fl.d0, List.map_nil]
  have e2 : fl.d.kws K = [] := by simp only [He.DefD.kws, fl.k0, List.map_nil]
  rw [e1, e2] at F
  exact ⟨fd, F⟩
end Dl

/-! DlS: what serves every plain law: runs as promises, walks by invariants, what a call leaves. -/
namespace Dl
/-! ### sums of places -/
@[simp] theorem addl_1_1 {n : Nat} : n + 1 + 1 = n + 2 := rfl
@[simp] theorem addl_1_2 {n : Nat} : n + 1 + 2 = n + 3 := rfl
@[simp] theorem addl_1_3 {n : Nat} : n + 1 + 3 = n + 4 := rfl
@[simp] theorem addl_2_1 {n : Nat} : n + 2 + 1 = n + 3 := rfl
@[simp] theorem addl_2_2 {n : Nat} : n + 2 + 2 = n + 4 := rfl
@[simp] theorem addl_2_3 {n : Nat} : n + 2 + 3 = n + 5 := rfl
@[simp] theorem addl_3_1 {n : Nat} : n + 3 + 1 = n + 4 := rfl
@[simp] theorem addl_3_2 {n : Nat} : n + 3 + 2 = n + 5 := rfl
@[simp] theorem addl_3_3 {n : Nat} : n + 3 + 3 = n + 6 := rfl
@[simp] theorem addl_4_1 {n : Nat} : n + 4 + 1 = n + 5 := rfl
@[simp] theorem addl_4_2 {n : Nat} : n + 4 + 2 = n + 6 := rfl
@[simp] theorem addl_4_3 {n : Nat} : n + 4 + 3 = n + 7 := rfl
@[simp] theorem addl_5_1 {n : Nat} : n + 5 + 1 = n + 6 := rfl
@[simp] theorem addl_5_2 {n : Nat} : n + 5 + 2 = n + 7 := rfl
@[simp] theorem addl_5_3 {n : Nat} : n + 5 + 3 = n + 8 := rfl
@[simp] theorem addl_6_1 {n : Nat} : n + 6 + 1 = n + 7 := rfl
@[simp] theorem addl_6_2 {n : Nat} : n + 6 + 2 = n + 8 := rfl
@[simp] theorem addl_6_3 {n : Nat} : n + 6 + 3 = n + 9 := rfl
@[simp] theorem addl_7_1 {n : Nat} : n + 7 + 1 = n + 8 := rfl
@[simp] theorem addl_7_2 {n : Nat} : n + 7 + 2 = n + 9 := rfl
@[simp] theorem addl_7_3 {n : Nat} : n + 7 + 3 = n + 10 := rfl
@[simp] theorem addl_8_1 {n : Nat} : n + 8 + 1 = n + 9 := rfl
@[simp] theorem addl_8_2 {n : Nat} : n + 8 + 2 = n + 10 := rfl
@[simp] theorem addl_8_3 {n : Nat} : n + 8 + 3 = n + 11 := rfl
@[simp] theorem addl_9_1 {n : Nat} : n + 9 + 1 = n + 10 := rfl
@[simp] theorem addl_9_2 {n : Nat} : n + 9 + 2 = n + 11 := rfl
@[simp] theorem addl_9_3 {n : Nat} : n + 9 + 3 = n + 12 := rfl
@[simp] theorem addl_10_1 {n : Nat} : n + 10 + 1 = n + 11 := rfl
@[simp] theorem addl_10_2 {n : Nat} : n + 10 + 2 = n + 12 := rfl
@[simp] theorem addl_10_3 {n : Nat} : n + 10 + 3 = n + 13 := rfl
@[simp] theorem addl_11_1 {n : Nat} : n + 11 + 1 = n + 12 := rfl
@[simp] theorem addl_11_2 {n : Nat} : n + 11 + 2 = n + 13 := rfl
@[simp] theorem addl_11_3 {n : Nat} : n + 11 + 3 = n + 14 := rfl
@[simp] theorem addl_12_1 {n : Nat} : n + 12 + 1 = n + 13 := rfl
@[simp] theorem addl_12_2 {n : Nat} : n + 12 + 2 = n + 14 := rfl
@[simp] theorem addl_12_3 {n : Nat} : n + 12 + 3 = n + 15 := rfl
@[simp] theorem addl_1_4 {n : Nat} : n + 1 + 4 = n + 5 := rfl
@[simp] theorem addl_1_5 {n : Nat} : n + 1 + 5 = n + 6 := rfl
@[simp] theorem addl_1_6 {n : Nat} : n + 1 + 6 = n + 7 := rfl
@[simp] theorem addl_1_7 {n : Nat} : n + 1 + 7 = n + 8 := rfl
@[simp] theorem addl_1_8 {n : Nat} : n + 1 + 8 = n + 9 := rfl
@[simp] theorem addl_1_9 {n : Nat} : n + 1 + 9 = n + 10 := rfl
@[simp] theorem addl_1_10 {n : Nat} : n + 1 + 10 = n + 11 := rfl
@[simp] theorem addl_1_11 {n : Nat} : n + 1 + 11 = n + 12 := rfl
@[simp] theorem addl_1_12 {n : Nat} : n + 1 + 12 = n + 13 := rfl
@[simp] theorem addl_2_4 {n : Nat} : n + 2 + 4 = n + 6 := rfl
@[simp] theorem addl_2_5 {n : Nat} : n + 2 + 5 = n + 7 := rfl
@[simp] theorem addl_2_6 {n : Nat} : n + 2 + 6 = n + 8 := rfl
@[simp] theorem addl_2_7 {n : Nat} : n + 2 + 7 = n + 9 := rfl
@[simp] theorem addl_2_8 {n : Nat} : n + 2 + 8 = n + 10 := rfl
@[simp] theorem addl_2_9 {n : Nat} : n + 2 + 9 = n + 11 := rfl
@[simp] theorem addl_2_10 {n : Nat} : n + 2 + 10 = n + 12 := rfl
@[simp] theorem addl_2_11 {n : Nat} : n + 2 + 11 = n + 13 := rfl
@[simp] theorem addl_2_12 {n : Nat} : n + 2 + 12 = n + 14 := rfl
@[simp] theorem addl_3_4 {n : Nat} : n + 3 + 4 = n + 7 := rfl
@[simp] theorem addl_3_5 {n : Nat} : n + 3 + 5 = n + 8 := rfl
@[simp] theorem addl_3_6 {n : Nat} : n + 3 + 6 = n + 9 := rfl
@[simp] theorem addl_3_7 {n : Nat} : n + 3 + 7 = n + 10 := rfl
@[simp] theorem addl_3_8 {n : Nat} : n + 3 + 8 = n + 11 := rfl
@[simp] theorem addl_3_9 {n : Nat} : n + 3 + 9 = n + 12 := rfl
@[simp] theorem addl_3_10 {n : Nat} : n + 3 + 10 = n + 13 := rfl
@[simp] theorem addl_3_11 {n : Nat} : n + 3 + 11 = n + 14 := rfl
@[simp] theorem addl_3_12 {n : Nat} : n + 3 + 12 = n + 15 := rfl
@[simp] theorem addl_4_4 {n : Nat} : n + 4 + 4 = n + 8 := rfl
@[simp] theorem addl_4_5 {n : Nat} : n + 4 + 5 = n + 9 := rfl
@[simp] theorem addl_4_6 {n : Nat} : n + 4 + 6 = n + 10 := rfl
@[simp] theorem addl_4_7 {n : Nat} : n + 4 + 7 = n + 11 := rfl
@[simp] theorem addl_4_8 {n : Nat} : n + 4 + 8 = n + 12 := rfl
@[simp] theorem addl_4_9 {n : Nat} : n + 4 + 9 = n + 13 := rfl
@[simp] theorem addl_4_10 {n : Nat} : n + 4 + 10 = n + 14 := rfl
@[simp] theorem addl_4_11 {n : Nat} : n + 4 + 11 = n + 15 := rfl
@[simp] theorem addl_4_12 {n : Nat} : n + 4 + 12 = n + 16 := rfl
@[simp] theorem addl_5_4 {n : Nat} : n + 5 + 4 = n + 9 := rfl
@[simp] theorem addl_5_5 {n : Nat} : n + 5 + 5 = n + 10 := rfl
@[simp] theorem addl_5_6 {n : Nat} : n + 5 + 6 = n + 11 := rfl
@[simp] theorem addl_5_7 {n : Nat} : n + 5 + 7 = n + 12 := rfl
@[simp] theorem addl_5_8 {n : Nat} : n + 5 + 8 = n + 13 := rfl
@[simp] theorem addl_5_9 {n : Nat} : n + 5 + 9 = n + 14 := rfl
@[simp] theorem addl_5_10 {n : Nat} : n + 5 + 10 = n + 15 := rfl
@[simp] theorem addl_5_11 {n : Nat} : n + 5 + 11 = n + 16 := rfl
@[simp] theorem addl_5_12 {n : Nat} : n + 5 + 12 = n + 17 := rfl
@[simp] theorem addl_6_4 {n : Nat} : n + 6 + 4 = n + 10 := rfl
@[simp] theorem addl_6_5 {n : Nat} : n + 6 + 5 = n + 11 := rfl
@[simp] theorem addl_6_6 {n : Nat} : n + 6 + 6 = n + 12 := rfl
@[simp] theorem addl_6_7 {n : Nat} : n + 6 + 7 = n + 13 := rfl
@[simp] theorem addl_6_8 {n : Nat} : n + 6 + 8 = n + 14 := rfl
@[simp] theorem addl_6_9 {n : Nat} : n + 6 + 9 = n + 15 := rfl
@[simp] theorem addl_6_10 {n : Nat} : n + 6 + 10 = n + 16 := rfl
@[simp] theorem addl_6_11 {n : Nat} : n + 6 + 11 = n + 17 := rfl
@[simp] theorem addl_6_12 {n : Nat} : n + 6 + 12 = n + 18 := rfl
@[simp] theorem addl_7_4 {n : Nat} : n + 7 + 4 = n + 11 := rfl
@[simp] theorem addl_7_5 {n : Nat} : n + 7 + 5 = n + 12 := rfl
@[simp] theorem addl_7_6 {n : Nat} : n + 7 + 6 = n + 13 := rfl
@[simp] theorem addl_7_7 {n : Nat} : n + 7 + 7 = n + 14 := rfl
@[simp] theorem addl_7_8 {n : Nat} : n + 7 + 8 = n + 15 := rfl
@[simp] theorem addl_7_9 {n : Nat} : n + 7 + 9 = n + 16 := rfl
@[simp] theorem addl_7_10 {n : Nat} : n + 7 + 10 = n + 17 := rfl
@[simp] theorem addl_7_11 {n : Nat} : n + 7 + 11 = n + 18 := rfl
@[simp] theorem addl_7_12 {n : Nat} : n + 7 + 12 = n + 19 := rfl
@[simp] theorem addl_8_4 {n : Nat} : n + 8 + 4 = n + 12 := rfl
@[simp] theorem addl_8_5 {n : Nat} : n + 8 + 5 = n + 13 := rfl
@[simp] theorem addl_8_6 {n : Nat} : n + 8 + 6 = n + 14 := rfl
@[simp] theorem addl_8_7 {n : Nat} : n + 8 + 7 = n + 15 := rfl
@[simp] theorem addl_8_8 {n : Nat} : n + 8 + 8 = n + 16 := rfl
@[simp] theorem addl_8_9 {n : Nat} : n + 8 + 9 = n + 17 := rfl
@[simp] theorem addl_8_10 {n : Nat} : n + 8 + 10 = n + 18 := rfl
@[simp] theorem addl_8_11 {n : Nat} : n + 8 + 11 = n + 19 := rfl
@[simp] theorem addl_8_12 {n : Nat} : n + 8 + 12 = n + 20 := rfl
@[simp] theorem addl_9_4 {n : Nat} : n + 9 + 4 = n + 13 := rfl
@[simp] theorem addl_9_5 {n : Nat} : n + 9 + 5 = n + 14 := rfl
@[simp] theorem addl_9_6 {n : Nat} : n + 9 + 6 = n + 15 := rfl
@[simp] theorem addl_9_7 {n : Nat} : n + 9 + 7 = n + 16 := rfl
@[simp] theorem addl_9_8 {n : Nat} : n + 9 + 8 = n + 17 := rfl
@[simp] theorem addl_9_9 {n : Nat} : n + 9 + 9 = n + 18 := rfl
@[simp] theorem addl_9_10 {n : Nat} : n + 9 + 10 = n + 19 := rfl
@[simp] theorem addl_9_11 {n : Nat} : n + 9 + 11 = n + 20 := rfl
@[simp] theorem addl_9_12 {n : Nat} : n + 9 + 12 = n + 21 := rfl
@[simp] theorem addl_10_4 {n : Nat} : n + 10 + 4 = n + 14 := rfl
@[simp] theorem addl_10_5 {n : Nat} : n + 10 + 5 = n + 15 := rfl
@[simp] theorem addl_10_6 {n : Nat} : n + 10 + 6 = n + 16 := rfl
@[simp] theorem addl_10_7 {n : Nat} : n + 10 + 7 = n + 17 := rfl
@[simp] theorem addl_10_8 {n : Nat} : n + 10 + 8 = n + 18 := rfl
@[simp] theorem addl_10_9 {n : Nat} : n + 10 + 9 = n + 19 := rfl
@[simp] theorem addl_10_10 {n : Nat} : n + 10 + 10 = n + 20 := rfl
@[simp] theorem addl_10_11 {n : Nat} : n + 10 + 11 = n + 21 := rfl
@[simp] theorem addl_10_12 {n : Nat} : n + 10 + 12 = n + 22 := rfl
@[simp] theorem addl_11_4 {n : Nat} : n + 11 + 4 = n + 15 := rfl
@[simp] theorem addl_11_5 {n : Nat} : n + 11 + 5 = n + 16 := rfl
@[simp] theorem addl_11_6 {n : Nat} : n + 11 + 6 = n + 17 := rfl
@[simp] theorem addl_11_7 {n : Nat} : n + 11 + 7 = n + 18 := rfl
@[simp] theorem addl_11_8 {n : Nat} : n + 11 + 8 = n + 19 := rfl
@[simp] theorem addl_11_9 {n : Nat} : n + 11 + 9 = n + 20 := rfl
@[simp] theorem addl_11_10 {n : Nat} : n + 11 + 10 = n + 21 := rfl
@[simp] theorem addl_11_11 {n : Nat} : n + 11 + 11 = n + 22 := rfl
@[simp] theorem addl_11_12 {n : Nat} : n + 11 + 12 = n + 23 := rfl
@[simp] theorem addl_12_4 {n : Nat} : n + 12 + 4 = n + 16 := rfl
@[simp] theorem addl_12_5 {n : Nat} : n + 12 + 5 = n + 17 := rfl
@[simp] theorem addl_12_6 {n : Nat} : n + 12 + 6 = n + 18 := rfl
@[simp] theorem addl_12_7 {n : Nat} : n + 12 + 7 = n + 19 := rfl
@[simp] theorem addl_12_8 {n : Nat} : n + 12 + 8 = n + 20 := rfl
@[simp] theorem addl_12_9 {n : Nat} : n + 12 + 9 = n + 21 := rfl
@[simp] theorem addl_12_10 {n : Nat} : n + 12 + 10 = n + 22 := rfl
@[simp] theorem addl_12_11 {n : Nat} : n + 12 + 11 = n + 23 := rfl
@[simp] theorem addl_12_12 {n : Nat} : n + 12 + 12 = n + 24 := rfl
/-! ### promises -/
/-- it ends well with Q, or raises with X -/
def R.To {α : Type} (r : R α) (Q : α → G → Prop) (X : Nat → G → Prop) : Prop := match r with
  | .ok a g => Q a g
  | .exc c g => X c g
  | .err => False
def RS.To (r : RS) (Q : Fl → Env → G → Prop) (X : Nat → Env → G → Prop) : Prop := match r with
  | .go f ρ g => Q f ρ g
  | .exc c ρ g => X c ρ g
  | .err => False
/-- behind a statement -/
def nxt (K : Env → G → Prop) (Q : Fl → Env → G → Prop) : Fl → Env → G → Prop
  | .nx, ρ, g => K ρ g
  | f, ρ, g => Q f ρ g
abbrev noX {α : Type} : Nat → α → Prop := fun _ _ => False
abbrev noX3 : Nat → Env → G → Prop := fun _ _ _ => False
section
variable {α β : Type} {Q : α → G → Prop} {X : Nat → G → Prop} {g : G} {K : Env → G → Prop} {QS : Fl → Env → G → Prop} {XS : Nat → Env → G → Prop} {ρ : Env}
@[simp] theorem ok_bind {a : β} {f : β → G → R α} : (R.ok a g).bind f = f a g := rfl
@[simp] theorem exc_bind {c : Nat} {f : β → G → R α} : (R.exc c g : R β).bind f = .exc c g := rfl
@[simp] theorem ok_RSof {a : α} {k : α → G → RS} : RS.of (R.ok a g) ρ k = k a g := rfl
@[simp] theorem of_none : (R.of none g : R α) = .err := rfl
@[simp] theorem of_some {a : α} : R.of (some a) g = .ok a g := rfl
@[simp] theorem To_ok {a : α} : (R.ok a g).To Q X = Q a g := rfl
@[simp] theorem To_exc {c : Nat} : (R.exc c g : R α).To Q X = X c g := rfl
@[simp] theorem To_err : (R.err : R α).To Q X = False := rfl
@[simp] theorem To_bind {r : R β} {f : β → G → R α} : (r.bind f).To Q X = r.To (fun a g => (f a g).To Q X) X := by cases r <;> rfl
@[simp] theorem To_of {o : Option α} {a : α} : (R.of (some a) g).To Q X = Q a g := rfl
@[simp] theorem To_nx {r : R α} : r.nx.To Q X = r.To Q (fun _ _ => False) := by cases r <;> rfl
@[simp] theorem To_RSof {r : R α} {k : α → G → RS} : (RS.of r ρ k).To QS XS = r.To (fun a g => (k a g).To QS XS) (fun c g => XS c ρ g) := by cases r <;> rfl
@[simp] theorem To_go {f : Fl} : (RS.go f ρ g).To QS XS = QS f ρ g := rfl
@[simp] theorem To_goX {c : Nat} : (RS.exc c ρ g).To QS XS = XS c ρ g := rfl
@[simp] theorem To_errS : (RS.err).To QS XS = False := rfl
@[simp] theorem nxt_nx : nxt K QS .nx ρ g = K ρ g := rfl
@[simp] theorem nxt_brk : nxt K QS .brk ρ g = QS .brk ρ g := rfl
@[simp] theorem nxt_cnt : nxt K QS .cnt ρ g = QS .cnt ρ g := rfl
@[simp] theorem nxt_ret {w : W} : nxt K QS (.ret w) ρ g = QS (.ret w) ρ g := rfl
theorem To_andThen {r : RS} {k : Env → G → RS} : (r.andThen k).To QS XS = r.To (nxt (fun ρ g => (k ρ g).To QS XS) QS) XS := by
  cases r with
  | go f ρ g => cases f <;> rfl
  | exc c ρ g => rfl
  | err => rfl
theorem R.To.imp {r : R α} {Q' : α → G → Prop} {X' : Nat → G → Prop} (h : r.To Q X) (hQ : ∀ a g, Q a g → Q' a g) (hX : ∀ c g, X c g → X' c g) : r.To Q' X' := by
  cases r with
  | ok a g => exact hQ a g h
  | exc c g => exact hX c g h
  | err => exact h
theorem RS.To.imp {r : RS} {Q' : Fl → Env → G → Prop} {X' : Nat → Env → G → Prop} (h : r.To QS XS) (hQ : ∀ a ρ g, QS a ρ g → Q' a ρ g) (hX : ∀ c ρ g, XS c ρ g → X' c ρ g) : r.To Q' X' := by
  cases r with
  | go a ρ g => exact hQ a ρ g h
  | exc c ρ g => exact hX c ρ g h
  | err => exact h
theorem R.To.ok {r : R α} (h : r.To Q noX) : ∃ a g, r = .ok a g ∧ Q a g := by
  cases r with
  | ok a g => exact ⟨a, g, rfl, h⟩
  | exc c g => exact h.elim
  | err => exact h.elim
theorem R.To.of {r : R α} {a : α} (h : r = .ok a g) (q : Q a g) : r.To Q X := by rw [h]; exact q
end
section
variable {T : Tbl} {call : CallF} {ρ : Env} {g : G} {QS : Fl → Env → G → Prop} {XS : Nat → Env → G → Prop}
@[simp] theorem seq_To {s : S} {r : SL} : (exs T call (.cons s r) ρ g).To QS XS = (ex T call s ρ g).To (nxt (fun ρ g => (exs T call r ρ g).To QS XS) QS) XS := by
  simp only [exs, To_andThen]
@[simp] theorem nil_To : (exs T call .nil ρ g).To QS XS = QS .nx ρ g := by simp only [exs, To_go]
/-- what a body's end is for its call -/
def fin (g : G) (Q : W → G → Prop) : Fl → Env → G → Prop
  | .nx, _, g' => Q .non (gc g .non g')
  | .ret w, _, g' => Q w (gc g w g')
  | _, _, _ => False
@[simp] theorem fin_nx {Q : W → G → Prop} {g' : G} : fin g Q .nx ρ g' = Q .non (gc g .non g') := rfl
@[simp] theorem fin_ret {Q : W → G → Prop} {g' : G} {w : W} : fin g Q (.ret w) ρ g' = Q w (gc g w g') := rfl
theorem call_To {k f : Nat} {fn : Fn} {ws : List W} {Q : W → G → Prop} {X : Nat → G → Prop} (h : T.fns[f]? = some fn) (hl : ws.length = fn.np)
    (H : (exs T (callN T k) fn.body (startE fn.nn ws) g).To (fin g Q) (fun c _ g' => X c (gc g .non g'))) : (callN T (k + 1) f ws g).To Q X := by
  show R.To (match T.fns[f]? with | some fn => fn.run T (callN T k) ws g | none => .err) Q X
  rw [h]
  simp only [Fn.run]
  rw [if_pos hl]
  cases hx : exs T (callN T k) fn.body (startE fn.nn ws) g with
  | err => rw [hx] at H; exact H
  | exc c ρ g' => rw [hx] at H; exact H
  | go fl ρ g' => rw [hx] at H; cases fl <;> exact H
end
theorem frun_To {T : Tbl} {call : CallF} {f : Fn} {ws : List W} {g : G} {Q : W → G → Prop} {X : Nat → G → Prop} (hl : ws.length = f.np)
    (H : (exs T call f.body (startE f.nn ws) g).To (fin g Q) (fun c _ g' => X c (gc g .non g'))) : (f.run T call ws g).To Q X := by
  simp only [Fn.run]
  rw [if_pos hl]
  cases hx : exs T call f.body (startE f.nn ws) g with
  | err => rw [hx] at H; exact H
  | exc c ρ g' => rw [hx] at H; exact H
  | go fl ρ g' => rw [hx] at H; cases fl <;> exact H
/-! ### walks -/
section
variable {t : Tg} {b : Env → G → RS} {Q : Fl → Env → G → Prop} {X : Nat → Env → G → Prop}
/-- over values, by an invariant of what is left -/
theorem forV_To {P : List W → Env → G → Prop} : ∀ {ws : List W} {ρ : Env} {g : G}, P ws ρ g →
    (∀ w r ρ g, P (w :: r) ρ g → ∃ ρ1, t.put w ρ = some ρ1 ∧ (b ρ1 g).To (fun f ρ2 g2 => match f with
      | .nx => P r ρ2 g2
      | .cnt => P r ρ2 g2
      | .brk => Q .nx ρ2 g2
      | .ret v => Q (.ret v) ρ2 g2) X) → (∀ ρ g, P [] ρ g → Q .nx ρ g) → (forV t b ws ρ g).To Q X
  | [], ρ, g, p, _, h2 => h2 ρ g p
  | w :: r, ρ, g, p, h1, h2 => by
    obtain ⟨ρ1, e, h⟩ := h1 w r ρ g p
    simp only [forV, e]
    cases hb : b ρ1 g with
    | err => rw [hb] at h; exact h.elim
    | exc c ρ2 g2 => rw [hb] at h; exact h
    | go f ρ2 g2 =>
      rw [hb] at h
      cases f with
      | nx => exact forV_To h h1 h2
      | cnt => exact forV_To h h1 h2
      | brk => exact h
      | ret v => exact h
/-- over values, by an invariant of the turn -/
theorem forI_To {ws : List W} {P : Nat → Env → G → Prop} {ρ : Env} {g : G} (p0 : P 0 ρ g)
    (h1 : ∀ j ρ g, (hj : j < ws.length) → P j ρ g → ∃ ρ1, t.put ws[j] ρ = some ρ1 ∧ (b ρ1 g).To (fun f ρ2 g2 => match f with
      | .nx => P (j + 1) ρ2 g2
      | .cnt => P (j + 1) ρ2 g2
      | .brk => Q .nx ρ2 g2
      | .ret v => Q (.ret v) ρ2 g2) X) (h2 : ∀ ρ g, P ws.length ρ g → Q .nx ρ g) : (forV t b ws ρ g).To Q X := by
  refine forV_To (P := fun rest ρ g => ∃ j, j ≤ ws.length ∧ rest = ws.drop j ∧ P j ρ g) ⟨0, Nat.zero_le _, rfl, p0⟩ ?_ ?_
  · rintro w r ρ g ⟨j, hj, e, p⟩
    have hlt : j < ws.length := by
      rcases Nat.lt_or_ge j ws.length with h | h
      · exact h
      · rw [List.drop_eq_nil_of_le h] at e; cases e
    rw [List.drop_eq_getElem_cons hlt] at e
    obtain ⟨rfl, rfl⟩ := List.cons.inj e
    obtain ⟨ρ1, e1, h⟩ := h1 j ρ g hlt p
    refine ⟨ρ1, e1, h.imp (fun f ρ2 g2 q => ?_) (fun _ _ _ h => h)⟩
    cases f with
    | nx => exact ⟨j + 1, hlt, rfl, q⟩
    | cnt => exact ⟨j + 1, hlt, rfl, q⟩
    | brk => exact q
    | ret v => exact q
  · rintro ρ g ⟨j, hj, e, p⟩
    have : j = ws.length := by have := List.drop_eq_nil_iff.mp e.symm; omega
    subst this
    exact h2 ρ g p
theorem forR_To {f : Nat → W} {n : Nat} {P : Nat → Env → G → Prop} {ρ : Env} {g : G} (p0 : P 0 ρ g)
    (h1 : ∀ j ρ g, j < n → P j ρ g → ∃ ρ1, t.put (f j) ρ = some ρ1 ∧ (b ρ1 g).To (fun f ρ2 g2 => match f with
      | .nx => P (j + 1) ρ2 g2
      | .cnt => P (j + 1) ρ2 g2
      | .brk => Q .nx ρ2 g2
      | .ret v => Q (.ret v) ρ2 g2) X) (h2 : ∀ ρ g, P n ρ g → Q .nx ρ g) : (forV t b ((List.range n).map f) ρ g).To Q X := by
  refine forI_To (P := P) p0 (fun j ρ g hj p => ?_) (fun ρ g p => h2 ρ g (by simpa using p))
  have := h1 j ρ g (by simpa using hj) p
  simpa using this
/-- over a list that may change, by an invariant of the turn -/
theorem forL_To {cur : Cur} {P : Nat → Env → G → Prop} {m : Nat} : ∀ {n j : Nat} {ρ : Env} {g : G}, P j ρ g → m + 1 ≤ n + j →
    (∀ j ρ g, P j ρ g → (cur.at_ j g = some none ∧ Q .nx ρ g) ∨ (j < m ∧ ∃ w ρ1, cur.at_ j g = some (some w) ∧ t.put w ρ = some ρ1 ∧ (b ρ1 g).To (fun f ρ2 g2 => match f with
      | .nx => P (j + 1) ρ2 g2
      | .cnt => P (j + 1) ρ2 g2
      | .brk => Q .nx ρ2 g2
      | .ret v => Q (.ret v) ρ2 g2) X)) → j ≤ m → (forL t b cur n j ρ g).To Q X
  | 0, j, ρ, g, p, hn, h1, hj => by omega
  | n + 1, j, ρ, g, p, hn, h1, hj => by
    simp only [forL]
    rcases h1 j ρ g p with ⟨e, q⟩ | ⟨hlt, w, ρ1, e, e2, h⟩
    · simp only [e]; exact q
    · simp only [e, e2]
      cases hb : b ρ1 g with
      | err => rw [hb] at h; exact h.elim
      | exc c ρ2 g2 => rw [hb] at h; exact h
      | go f ρ2 g2 =>
        rw [hb] at h
        cases f with
        | nx => exact forL_To h (by omega) h1 (by omega)
        | cnt => exact forL_To h (by omega) h1 (by omega)
        | brk => exact h
        | ret v => exact h
/-- over a list that stays -/
theorem forL_ws {i : Nat} {ws : List W} {P : List W → Env → G → Prop} {ρ : Env} {g : G} (hl : ws.length < FUEL) (p : P ws ρ g) (hat : ∀ r ρ g, P r ρ g → g[i]? = some (.lst ws))
    (h1 : ∀ w r ρ g, P (w :: r) ρ g → ∃ ρ1, t.put w ρ = some ρ1 ∧ (b ρ1 g).To (fun f ρ2 g2 => match f with
      | .nx => P r ρ2 g2
      | .cnt => P r ρ2 g2
      | .brk => Q .nx ρ2 g2
      | .ret v => Q (.ret v) ρ2 g2) X) (h2 : ∀ ρ g, P [] ρ g → Q .nx ρ g) : (forL t b (.live i) FUEL 0 ρ g).To Q X := by
  refine forL_To (m := ws.length) (P := fun j ρ g => P (ws.drop j) ρ g) (by simpa using p) (by omega) (fun j ρ g q => ?_) (Nat.zero_le _)
  have ha := hat _ _ _ q
  by_cases hj : j < ws.length
  · refine .inr ⟨hj, ws[j], ?_⟩
    rw [List.drop_eq_getElem_cons hj] at q
    obtain ⟨ρ1, e, h⟩ := h1 _ _ _ _ q
    refine ⟨ρ1, by simp [Cur.at_, lstOf, ha, hj], e, h⟩
  · refine .inl ⟨by simp [Cur.at_, lstOf, ha]; omega, ?_⟩
    rw [List.drop_eq_nil_of_le (by omega)] at q
    exact h2 _ _ q
theorem forJ_To {i : Nat} {ws : List W} {P : Nat → Env → G → Prop} {ρ : Env} {g : G} (hl : ws.length < FUEL) (p : P 0 ρ g) (hat : ∀ j ρ g, P j ρ g → g[i]? = some (.lst ws))
    (h1 : ∀ j ρ g, (hj : j < ws.length) → P j ρ g → ∃ ρ1, t.put ws[j] ρ = some ρ1 ∧ (b ρ1 g).To (fun f ρ2 g2 => match f with
      | .nx => P (j + 1) ρ2 g2
      | .cnt => P (j + 1) ρ2 g2
      | .brk => Q .nx ρ2 g2
      | .ret v => Q (.ret v) ρ2 g2) X) (h2 : ∀ ρ g, P ws.length ρ g → Q .nx ρ g) : (forL t b (.live i) FUEL 0 ρ g).To Q X := by
  refine forL_To (m := ws.length) (P := fun j ρ g => j ≤ ws.length ∧ P j ρ g) ⟨Nat.zero_le _, p⟩ (by omega) (fun j ρ g q => ?_) (Nat.zero_le _)
  have ha := hat _ _ _ q.2
  by_cases hj : j < ws.length
  · refine .inr ⟨hj, ws[j], ?_⟩
    obtain ⟨ρ1, e, h⟩ := h1 j ρ g hj q.2
    refine ⟨ρ1, by simp [Cur.at_, lstOf, ha, hj], e, h.imp (fun f ρ2 g2 q => ?_) (fun _ _ _ h => h)⟩
    cases f with
    | nx => exact ⟨hj, q⟩
    | cnt => exact ⟨hj, q⟩
    | brk => exact q
    | ret v => exact q
  · refine .inl ⟨by simp [Cur.at_, lstOf, ha]; omega, ?_⟩
    have : j = ws.length := by omega
    subst this
    exact h2 _ _ q.2
/-- .. with its places -/
theorem forE_To {i : Nat} {ws : List W} {P : Nat → Env → G → Prop} {ρ : Env} {g : G} (hl : ws.length < FUEL) (p : P 0 ρ g) (hat : ∀ j ρ g, P j ρ g → g[i]? = some (.lst ws))
    (h1 : ∀ j ρ g, (hj : j < ws.length) → P j ρ g → ∃ ρ1, t.put (.tup [.int j, ws[j]]) ρ = some ρ1 ∧ (b ρ1 g).To (fun f ρ2 g2 => match f with
      | .nx => P (j + 1) ρ2 g2
      | .cnt => P (j + 1) ρ2 g2
      | .brk => Q .nx ρ2 g2
      | .ret v => Q (.ret v) ρ2 g2) X) (h2 : ∀ ρ g, P ws.length ρ g → Q .nx ρ g) : (forL t b (.lenum i) FUEL 0 ρ g).To Q X := by
  refine forL_To (m := ws.length) (P := fun j ρ g => j ≤ ws.length ∧ P j ρ g) ⟨Nat.zero_le _, p⟩ (by omega) (fun j ρ g q => ?_) (Nat.zero_le _)
  have ha := hat _ _ _ q.2
  by_cases hj : j < ws.length
  · refine .inr ⟨hj, .tup [.int j, ws[j]], ?_⟩
    obtain ⟨ρ1, e, h⟩ := h1 j ρ g hj q.2
    refine ⟨ρ1, by simp [Cur.at_, lstOf, ha, hj], e, h.imp (fun f ρ2 g2 q => ?_) (fun _ _ _ h => h)⟩
    cases f with
    | nx => exact ⟨hj, q⟩
    | cnt => exact ⟨hj, q⟩
    | brk => exact q
    | ret v => exact q
  · refine .inl ⟨by simp [Cur.at_, lstOf, ha]; omega, ?_⟩
    have : j = ws.length := by omega
    subst this
    exact h2 _ _ q.2
/-- a while by a measure -/
theorem whl_To {c : Env → G → R Bool} {P : Nat → Env → G → Prop} : ∀ {n m : Nat} {ρ : Env} {g : G}, P m ρ g → m < n →
    (∀ m ρ g, P m ρ g → (c ρ g).To (fun k g1 => match k with
      | false => Q .nx ρ g1
      | true => (b ρ g1).To (fun f ρ2 g2 => match f with
        | .nx => ∃ m', m' < m ∧ P m' ρ2 g2
        | .cnt => ∃ m', m' < m ∧ P m' ρ2 g2
        | .brk => Q .nx ρ2 g2
        | .ret v => Q (.ret v) ρ2 g2) X) (fun c g => X c ρ g)) → (whl c b n ρ g).To Q X
  | 0, m, ρ, g, p, hn, _ => by omega
  | n + 1, m, ρ, g, p, hn, h1 => by
    have h := h1 m ρ g p
    simp only [whl, To_RSof]
    cases hc : c ρ g with
    | err => rw [hc] at h; exact h
    | exc c g1 => rw [hc] at h; exact h
    | ok k g1 =>
      rw [hc] at h
      cases k with
      | false => exact h
      | true =>
        simp only [To_ok] at h ⊢
        cases hb : b ρ g1 with
        | err => rw [hb] at h; exact h.elim
        | exc c ρ2 g2 => rw [hb] at h; exact h
        | go f ρ2 g2 =>
          rw [hb] at h
          cases f with
          | nx => obtain ⟨m', l, p'⟩ := h; exact whl_To p' (by omega) h1
          | cnt => obtain ⟨m', l, p'⟩ := h; exact whl_To p' (by omega) h1
          | brk => exact h
          | ret v => exact h
end
/-! ### comprehensions -/
section
variable {t : Tg} {c : Env → G → R Bool} {el : Env → G → R W} {ρ : Env} {Q : List W → G → Prop} {X : Nat → G → Prop}
/-- over values, by an invariant of what is left and what is made -/
theorem compV_To {P : List W → List W → G → Prop} : ∀ {ws acc : List W} {g : G}, P ws acc g →
    (∀ w r acc g, P (w :: r) acc g → ∃ ρ1, t.put w ρ = some ρ1 ∧ (c ρ1 g).To (fun k g1 => match k with
      | false => P r acc g1
      | true => (el ρ1 g1).To (fun x g2 => P r (acc ++ [x]) g2) noX) noX) → (∀ acc g, P [] acc g → ∀ xs, acc = xs → Q xs g) →
    (compV t c el ρ ws g).To (fun xs g' => Q (acc ++ xs) g') X
  | [], acc, g, p, _, h2 => by simp only [compV, To_ok, List.append_nil]; exact h2 acc g p _ rfl
  | w :: r, acc, g, p, h1, h2 => by
    obtain ⟨ρ1, e, h⟩ := h1 w r acc g p
    simp only [compV, e, To_bind, To_nx]
    cases hc : c ρ1 g with
    | err => rw [hc] at h; exact h
    | exc c g1 => rw [hc] at h; exact h
    | ok k g1 =>
      rw [hc] at h
      cases k with
      | false => exact compV_To h h1 h2
      | true =>
        simp only [To_ok, To_bind, To_nx] at h ⊢
        cases he : el ρ1 g1 with
        | err => rw [he] at h; exact h
        | exc c g1 => rw [he] at h; exact h
        | ok x g2 =>
          rw [he] at h
          simp only [To_ok]
          have := compV_To h h1 h2
          simpa only [List.append_assoc, List.cons_append, List.nil_append] using this
/-- pure: what each item gives -/
theorem compV_map {f : W → W} {ws : List W} {g : G} (h : ∀ w ∈ ws, ∃ ρ1, t.put w ρ = some ρ1 ∧ c ρ1 g = .ok true g ∧ el ρ1 g = .ok (f w) g) : compV t c el ρ ws g = .ok (ws.map f) g := by
  induction ws with
  | nil => rfl
  | cons w r ih =>
    obtain ⟨ρ1, e, e1, e2⟩ := h w List.mem_cons_self
    simp only [compV, e, e1, e2, R.nx, R.bind, ih fun w hw => h w (List.mem_cons_of_mem _ hw), List.map_cons]
theorem compV_filter {f : W → W} {q : W → Bool} {ws : List W} {g : G} (h : ∀ w ∈ ws, ∃ ρ1, t.put w ρ = some ρ1 ∧ c ρ1 g = .ok (q w) g ∧ (q w = true → el ρ1 g = .ok (f w) g)) : compV t c el ρ ws g = .ok ((ws.filter q).map f) g := by
  induction ws with
  | nil => rfl
  | cons w r ih =>
    obtain ⟨ρ1, e, e1, e2⟩ := h w List.mem_cons_self
    have i := ih fun w hw => h w (List.mem_cons_of_mem _ hw)
    cases hq : q w with
    | true => simp only [compV, e, e1, e2 hq, hq, R.nx, R.bind, i, List.filter_cons_of_pos hq, List.map_cons]
    | false => simp only [compV, e, e1, hq, R.nx, R.bind, i, List.filter_cons_of_neg (by rw [hq]; decide : ¬ q w = true)]
/-- .. over a list in the heap that stays -/
theorem compL_eq {i : Nat} {ws : List W} (P : G → Prop) (hat : ∀ g, P g → g[i]? = some (.lst ws))
    (hc : ∀ w ∈ ws, ∀ g ρ1, P g → t.put w ρ = some ρ1 → ∀ k g1, c ρ1 g = .ok k g1 → P g1) (he : ∀ w ∈ ws, ∀ g ρ1, P g → t.put w ρ = some ρ1 → ∀ k g1, el ρ1 g = .ok k g1 → P g1) :
    ∀ {n j : Nat} {g : G}, ws.length - j < n → P g → compL t c el ρ (.live i) n j g = compV t c el ρ (ws.drop j) g
  | 0, j, g, hn, _ => by omega
  | n + 1, j, g, hn, p => by
    have ha : Cur.at_ (.live i) j g = some ws[j]? := by simp [Cur.at_, lstOf, hat g p]
    simp only [compL, ha]
    by_cases hj : j < ws.length
    · have e0 : ws[j]? = some ws[j] := by simp [hj]
      rw [e0, List.drop_eq_getElem_cons hj]
      simp only [compV]
      have hm : ws[j] ∈ ws := List.getElem_mem hj
      cases e1 : t.put ws[j] ρ with
      | none => rfl
      | some ρ1 =>
        simp only
        cases e2 : c ρ1 g with
        | err => rfl
        | exc _ _ => rfl
        | ok k g1 =>
          have p1 := hc _ hm g ρ1 p e1 k g1 e2
          cases k with
          | false => simp only [R.nx, R.bind]; exact compL_eq P hat hc he (by omega) p1
          | true =>
            simp only [R.nx, R.bind]
            cases e3 : el ρ1 g1 with
            | err => rfl
            | exc _ _ => rfl
            | ok x g2 =>
              have p2 := he _ hm g1 ρ1 p1 e1 x g2 e3
              simp only
              rw [compL_eq P hat hc he (n := n) (by omega) p2]
    · have e0 : ws[j]? = none := by simp; omega
      rw [e0, List.drop_eq_nil_of_le (by omega)]
      rfl
/-- pure, over a list in the heap -/
theorem compL_map {f : W → W} {i : Nat} {ws : List W} {g : G} (hl : ws.length < FUEL) (hat : g[i]? = some (.lst ws)) (h : ∀ w ∈ ws, ∃ ρ1, t.put w ρ = some ρ1 ∧ c ρ1 g = .ok true g ∧ el ρ1 g = .ok (f w) g) : compL t c el ρ (.live i) FUEL 0 g = .ok (ws.map f) g := by
  rw [compL_eq (P := fun g' => g' = g) (fun g' e => by rw [e]; exact hat) ?_ ?_ (by omega) rfl]
  · exact compV_map h
  · rintro w hw g' ρ1 rfl e k g1 e1
    obtain ⟨ρ2, a, b, d⟩ := h w hw
    rw [e] at a
    cases a
    rw [b] at e1
    cases e1; rfl
  · rintro w hw g' ρ1 rfl e k g1 e1
    obtain ⟨ρ2, a, b, d⟩ := h w hw
    rw [e] at a
    cases a
    rw [d] at e1
    cases e1; rfl
end
/-! ### what a call leaves -/
theorem kvseq_refl : ∀ a : List (W × W), kvseq a a = true
  | [] => rfl
  | (a, b) :: r => by simp [kvseq, weq_refl, kvseq_refl r]
theorem fseq_refl : ∀ a : List (Nm × W), fseq a a = true
  | [] => rfl
  | (a, b) :: r => by simp [fseq, weq_refl, fseq_refl r]
theorem obeq_refl (o : Ob) : obeq o o = true := by cases o <;> simp [obeq, weqs_refl, kvseq_refl, fseq_refl]
theorem gpre_app (n : Nat) : ∀ (g x : G), gpre n g (g ++ x) = true
  | [], _ => rfl
  | a :: r, x => by simp [gpre, obeq_refl, gpre_app n r x]
theorem gc_app {g x : G} {w : W} (h : below g.length w = true) : gc g w (g ++ x) = g := by simp [gc, h, gpre_app]
theorem gc_self (g : G) (w : W) : gc g w g = g := by
  unfold gc
  split
  · simp
  · rfl
theorem gc_up {g g' : G} {w : W} (h : below g.length w = false) : gc g w g' = g' := by simp [gc, h]
section
variable {n : Nat}
@[simp] theorem below_non : below n .non = true := rfl
@[simp] theorem below_bl {b : Bool} : below n (.bl b) = true := rfl
@[simp] theorem below_int {i : Int} : below n (.int i) = true := rfl
@[simp] theorem below_str {s : List Nat} : below n (.str s) = true := rfl
@[simp] theorem below_tup {ws : List W} : below n (.tup ws) = belows n ws := rfl
@[simp] theorem below_fl {ws : List W} : below n (.fl ws) = belows n ws := rfl
@[simp] theorem below_ref {i : Nat} : below n (.ref i) = decide (i < n) := rfl
@[simp] theorem belows_nil : belows n [] = true := rfl
@[simp] theorem belows_cons {w : W} {ws : List W} : belows n (w :: ws) = (below n w && belows n ws) := rfl
@[simp high] theorem app_get {α : Type} {r l : List α} {k : Nat} : (r ++ l)[r.length + k]? = l[k]? := by rw [List.getElem?_append_right (by omega)]; congr 1; omega
@[simp high] theorem app_get0 {α : Type} {r l : List α} : (r ++ l)[r.length]? = l[0]? := app_get (k := 0)
@[simp high] theorem app_set {α : Type} {r l : List α} {k : Nat} {o : α} : (r ++ l).set (r.length + k) o = r ++ l.set k o := by rw [List.set_append_right _ _ (by omega)]; congr 2; omega
@[simp high] theorem app_set0 {α : Type} {r l : List α} {o : α} : (r ++ l).set r.length o = r ++ l.set 0 o := app_set (k := 0)
end
theorem atW_nat {α : Type} {xs : List α} (n : Nat) : atW xs n = xs[n]? := by
  simp only [atW, ixW]
  rw [if_pos (by omega)]
  by_cases h : n < xs.length
  · rw [if_pos (by omega)]; simp
  · rw [if_neg (by omega)]; simp; omega
@[simp] theorem atW_0 {α : Type} {xs : List α} : atW xs 0 = xs[0]? := atW_nat 0
@[simp] theorem atW_1 {α : Type} {xs : List α} : atW xs 1 = xs[1]? := atW_nat 1
@[simp] theorem atW_2 {α : Type} {xs : List α} : atW xs 2 = xs[2]? := atW_nat 2
@[simp] theorem atW_3 {α : Type} {xs : List α} : atW xs 3 = xs[3]? := atW_nat 3
@[simp] theorem atW_4 {α : Type} {xs : List α} : atW xs 4 = xs[4]? := atW_nat 4
@[simp] theorem atW_5 {α : Type} {xs : List α} : atW xs 5 = xs[5]? := atW_nat 5
@[simp] theorem atW_6 {α : Type} {xs : List α} : atW xs 6 = xs[6]? := atW_nat 6
@[simp] theorem atW_7 {α : Type} {xs : List α} : atW xs 7 = xs[7]? := atW_nat 7
@[simp] theorem atW_8 {α : Type} {xs : List α} : atW xs 8 = xs[8]? := atW_nat 8
theorem belows_ints (n : Nat) : ∀ (l : List Int), belows n (l.map W.int) = true
  | [] => rfl
  | i :: r => by simp [belows, below, belows_ints n r]
/-! ### the stream -/
structure SS where
  ns : List Int
  p : Int
  a : Int
  m : Int
  hp : 0 ≤ p
  ha : 0 ≤ a
  hm0 : 0 ≤ m
  hm : m < 2147483647
/-- the heap of a law: the script's copy, the stream, the rest -/
def hp (z : SS) (r : G) : G := .lst (z.ns.map W.int) :: .lst [.ref 0, .int z.p, .int z.a, .int z.m] :: r
section
variable {z z' : SS} {r x : G} {o : Ob} {w : W}
@[simp] theorem hp_app : hp z r ++ x = hp z (r ++ x) := rfl
@[simp] theorem hp_len : (hp z r).length = r.length + 2 := rfl
@[simp high] theorem hp_get {n : Nat} : (hp z r)[n + 2]? = r[n]? := rfl
theorem hp_get0 : (hp z r)[0]? = some (.lst (z.ns.map W.int)) := rfl
theorem hp_get1 : (hp z r)[1]? = some (.lst [.ref 0, .int z.p, .int z.a, .int z.m]) := rfl
@[simp high] theorem hp_set {n : Nat} : (hp z r).set (n + 2) o = hp z (r.set n o) := rfl
theorem gc_hp (h : below (r.length + 2) w = true) : gc (hp z r) w (hp z' (r ++ x)) = hp z' r := by
  have e : gpre (hp z r).length (hp z r) (hp z' (r ++ x)) = true := by
    simp [hp, gpre, lowO, belows_ints, belows, below, gpre_app]
  unfold gc
  rw [if_pos (by rw [hp_len, h]; simpa using e)]
  simp [hp]
theorem gc_hp0 : gc (hp z r) w (hp z' r) = hp z' r := by
  by_cases h : below (r.length + 2) w = true
  · have := gc_hp (z := z) (z' := z') (x := []) h
    simpa using this
  · unfold gc
    rw [if_neg]
    rw [hp_len]
    simp [h]
@[simp] theorem gc_hp_if : gc (hp z r) w (hp z' (r ++ x)) = if below (r.length + 2) w = true then hp z' r else hp z' (r ++ x) := by
  split
  · rename_i h; exact gc_hp h
  · rename_i h
    unfold gc
    rw [if_neg]
    rw [hp_len]
    simp [h]
@[simp] theorem gc_hp_self : gc (hp z r) w (hp z' r) = hp z' r := gc_hp0
end
/-- a heap's rest that has grown -/
def Ext (r r' : G) : Prop := ∃ y, r' = r ++ y
theorem Ext.rfl' {r : G} : Ext r r := ⟨[], by simp⟩
theorem Ext.app {r y : G} : Ext r (r ++ y) := ⟨y, rfl⟩
theorem Ext.trans {a b c : G} : Ext a b → Ext b c → Ext a c
  | ⟨x, e⟩, ⟨y, f⟩ => ⟨x ++ y, by rw [f, e, List.append_assoc]⟩
theorem Ext.le {a b : G} : Ext a b → a.length ≤ b.length
  | ⟨x, e⟩ => by rw [e]; simp
/-- an object of the rest, by its name -/
def At (r : G) (p : Nat) (o : Ob) : Prop := 2 ≤ p ∧ r[p - 2]? = some o
section
variable {z z' : SS} {r r' x : G} {o o' : Ob} {w : W} {p q : Nat}
theorem At.get (h : At r p o) : (hp z r)[p]? = some o := by
  obtain ⟨h1, h2⟩ := h
  obtain ⟨q, rfl⟩ : ∃ q, p = q + 2 := ⟨p - 2, by omega⟩
  simpa using h2
theorem At.lt (h : At r p o) : p < r.length + 2 := by
  obtain ⟨h1, h2⟩ := h
  have := (List.getElem?_eq_some_iff.mp h2).1
  omega
theorem At.ext (h : At r p o) (e : Ext r r') : At r' p o := by
  obtain ⟨y, rfl⟩ := e
  have := h.lt
  refine ⟨h.1, ?_⟩
  rw [List.getElem?_append_left (by have := h.1; omega)]
  exact h.2
theorem At.get' (h : At r p o) : (hp z (r ++ x))[p]? = some o := (h.ext .app).get
theorem At.new : At (r ++ [o]) (r.length + 2) o := ⟨by omega, by simp⟩
theorem At.set_self (h : At r p o) : At (r.set (p - 2) o') p o' := ⟨h.1, by have := h.lt; rw [List.getElem?_set_self (by have := h.1; omega)]⟩
theorem At.set_ne (h : At r p o) (ne : q ≠ p) (hq : 2 ≤ q) : At (r.set (q - 2) o') p o := ⟨h.1, by rw [List.getElem?_set_ne (by have := h.1; omega)]; exact h.2⟩
theorem At.put (h : At r p o) : (hp z r).set p o' = hp z (r.set (p - 2) o') := by
  obtain ⟨h1, h2⟩ := h
  obtain ⟨q, rfl⟩ : ∃ q, p = q + 2 := ⟨p - 2, by omega⟩
  simp
theorem At.append {xs : List W} {y : W} (h : At r p (.lst xs)) (hl : xs.length < lim) : M.runL .append p [y] (hp z r) = .ok .non (hp z (r.set (p - 2) (.lst (xs ++ [y])))) := by
  simp only [M.runL, h.get, if_pos hl, h.put]
theorem Ext.set {i : Nat} (h : Ext r r') (hi : r.length ≤ i) : Ext r (r'.set i o) := by
  obtain ⟨y, rfl⟩ := h
  refine ⟨y.set (i - r.length) o, ?_⟩
  rw [List.set_append_right _ _ hi]
theorem gc_ext (h : Ext r r') (hb : below (r.length + 2) w = true) : gc (hp z r) w (hp z' r') = hp z' r := by
  obtain ⟨y, rfl⟩ := h
  exact gc_hp hb
theorem gc_ext' (h : Ext r r') (hb : below (r.length + 2) w = true) : gc (hp z r) w (hp z' (r' ++ x)) = hp z' r := gc_ext (h.trans .app) hb
theorem gc_keep (hb : below (r.length + 2) w = false) : gc (hp z r) w (hp z' r') = hp z' r' := gc_up hb
end
theorem small_of {n : Int} (h : n.natAbs < 2 ^ 255) : smallI n = true := by
  unfold smallI
  rw [decide_eq_true_eq]
  by_cases z : n.natAbs = 0
  · rw [z]; decide
  · have := (Nat.log2_lt z).mpr h
    omega
@[simp] theorem small_lit {n : Int} (h : n.natAbs < 2 ^ 250) : smallI n = true := small_of (by omega)
theorem log_of {n : Int} (h : n.natAbs < 2 ^ 100) : n.natAbs.log2 < 9000 := by
  by_cases z : n.natAbs = 0
  · rw [z]; decide
  · have := (Nat.log2_lt z).mpr h
    omega
/-- a comprehension whose items draw: ints -/
theorem compD {E : Int → Prop} {i : Nat} {c : Env → G → R Bool} {el : Env → G → R W} {ρ : Env} {ws : List W} {z : SS} {r : G} {Q : List W → G → Prop} {X : Nat → G → Prop} (hc : ∀ ρ g, c ρ g = .ok true g)
    (h : ∀ w ∈ ws, ∀ z, (el (ρ.set i (some w)) (hp z r)).To (fun x g => ∃ v z', x = .int v ∧ E v ∧ g = hp z' r) noX) (q : ∀ (l : List Int) z', l.length = ws.length → (∀ v ∈ l, E v) → Q (l.map W.int) (hp z' r)) : (compV (.nm i) c el ρ ws (hp z r)).To Q X := by
  have := compV_To (t := .nm i) (c := c) (el := el) (ρ := ρ) (Q := Q) (X := X) (ws := ws) (acc := []) (g := hp z r)
    (P := fun rest acc g => (∀ w ∈ rest, w ∈ ws) ∧ ∃ (l : List Int) (z : SS), acc = l.map W.int ∧ g = hp z r ∧ (∀ v ∈ l, E v) ∧ l.length + rest.length = ws.length) ⟨fun _ h => h, [], z, rfl, rfl, by simp, by simp⟩ ?_ ?_
  · simpa using this
  · rintro w rest acc g ⟨hw, l, z, rfl, rfl, hl, hn⟩
    refine ⟨_, rfl, ?_⟩
    rw [hc]
    refine (h w (hw w List.mem_cons_self) z).imp ?_ fun _ _ h => h
    rintro x g ⟨v, z', rfl, hv, rfl⟩
    refine ⟨fun w h => hw w (List.mem_cons_of_mem _ h), l ++ [v], z', by simp, rfl, ?_, by simp at hn ⊢; omega⟩
    intro u hu
    rcases List.mem_append.mp hu with hu | hu
    · exact hl u hu
    · have : u = v := by simpa using hu
      rw [this]; exact hv
  · rintro acc g ⟨_, l, z, rfl, rfl, hl, hn⟩ xs rfl
    exact q l z (by simpa using hn) hl
/-- over whole numbers from 0 on -/
theorem compR_map {i : Nat} {c : Env → G → R Bool} {el : Env → G → R W} {ρ : Env} {f : Nat → W} {n : Nat} {g : G} (h : ∀ k, k < n → c (ρ.set i (some (.int k))) g = .ok true g ∧ el (ρ.set i (some (.int k))) g = .ok (f k) g) : compV (.nm i) c el ρ ((List.range n).map fun (k : Nat) => W.int k) g = .ok ((List.range n).map f) g := by
  have : ∀ (l : List Nat), (∀ k ∈ l, k < n) → compV (.nm i) c el ρ (l.map fun (k : Nat) => W.int k) g = .ok (l.map f) g := by
    intro l
    induction l with
    | nil => intro _; rfl
    | cons a l ih =>
      intro hl
      obtain ⟨h1, h2⟩ := h a (hl a List.mem_cons_self)
      simp only [List.map_cons, compV, Tg.put, h1, h2, R.nx, R.bind, ih fun k hk => hl k (List.mem_cons_of_mem _ hk)]
  exact this _ fun k hk => List.mem_range.mp hk
theorem compR_filter {i : Nat} {c : Env → G → R Bool} {el : Env → G → R W} {ρ : Env} {f : Nat → W} {q : Nat → Bool} {n : Nat} {g : G} (h : ∀ k, k < n → c (ρ.set i (some (.int k))) g = .ok (q k) g ∧ (q k = true → el (ρ.set i (some (.int k))) g = .ok (f k) g)) : compV (.nm i) c el ρ ((List.range n).map fun (k : Nat) => W.int k) g = .ok (((List.range n).filter q).map f) g := by
  have : ∀ (l : List Nat), (∀ k ∈ l, k < n) → compV (.nm i) c el ρ (l.map fun (k : Nat) => W.int k) g = .ok ((l.filter q).map f) g := by
    intro l
    induction l with
    | nil => intro _; rfl
    | cons a l ih =>
      intro hl
      obtain ⟨h1, h2⟩ := h a (hl a List.mem_cons_self)
      have i := ih fun k hk => hl k (List.mem_cons_of_mem _ hk)
      cases hq : q a with
      | true => simp only [List.map_cons, compV, Tg.put, h1, h2 hq, hq, R.nx, R.bind, i, List.filter_cons_of_pos hq]
      | false => simp only [List.map_cons, compV, Tg.put, h1, hq, R.nx, R.bind, i, List.filter_cons_of_neg (by rw [hq]; decide : ¬ q a = true)]
  exact this _ fun k hk => List.mem_range.mp hk
/-- items that draw, over a list of values: what they keep -/
theorem compP {E : Nat → W → W → Prop} {i : Nat} {c : Env → G → R Bool} {el : Env → G → R W} {ρ : Env} {ws : List W} {z : SS} {r : G} {Q : List W → G → Prop} {X : Nat → G → Prop} (hc : ∀ ρ g, c ρ g = .ok true g)
    (h : ∀ j, (hj : j < ws.length) → ∀ z y, (el (ρ.set i (some ws[j])) (hp z (r ++ y))).To (fun x g => E j ws[j] x ∧ ∃ z' y', g = hp z' (r ++ y')) noX) (q : ∀ (l : List W) z' y, l.length = ws.length → (∀ j (h1 : j < ws.length) (h2 : j < l.length), E j ws[j] l[j]) → Q l (hp z' (r ++ y))) : (compV (.nm i) c el ρ ws (hp z r)).To Q X := by
  have := compV_To (t := .nm i) (c := c) (el := el) (ρ := ρ) (Q := Q) (X := X) (ws := ws) (acc := []) (g := hp z r)
    (P := fun rest acc g => ws.drop acc.length = rest ∧ acc.length ≤ ws.length ∧ ∃ (z : SS) (y : G), g = hp z (r ++ y) ∧ ∀ j (h1 : j < ws.length) (h2 : j < acc.length), E j ws[j] acc[j]) ⟨rfl, Nat.zero_le _, z, [], by simp, by intro j _ h2; simp at h2⟩ ?_ ?_
  · simpa using this
  · rintro w rest acc g ⟨hw, hn, z, y, rfl, hl⟩
    have hlt : acc.length < ws.length := by
      rcases Nat.lt_or_ge acc.length ws.length with h | h
      · exact h
      · rw [List.drop_eq_nil_of_le h] at hw; cases hw
    rw [List.drop_eq_getElem_cons hlt] at hw
    obtain ⟨e1, e2⟩ := List.cons.inj hw
    refine ⟨_, rfl, ?_⟩
    rw [hc]
    have := h acc.length hlt z y
    rw [e1] at this
    refine this.imp ?_ fun _ _ h => h
    rintro x g ⟨hE, z', y', rfl⟩
    refine ⟨by simpa using e2, by simp; omega, z', y', rfl, ?_⟩
    intro j h1 h2
    by_cases hj : j < acc.length
    · rw [List.getElem_append_left hj]; exact hl j h1 hj
    · have : j = acc.length := by simp at h2; omega
      subst this
      simp only [List.getElem_append_right (Nat.le_refl _), Nat.sub_self, List.getElem_cons_zero, e1]
      exact hE
  · rintro acc g ⟨hd, hn, z, y, rfl, hl⟩ xs rfl
    exact q acc z y (by rw [List.drop_eq_nil_iff] at hd; omega) hl
/-! ### equal data -/
theorem eqbs_ints (g : G) (n : Nat) : ∀ l : List Int, eqbs (eqb g (n + 1)) (l.map W.int) (l.map W.int) = true
  | [] => rfl
  | i :: r => by simp [eqbs, eqb, lstOf, seqb, eqbs_ints g n r]
theorem data_ints (g : G) (n : Nat) : ∀ l : List Int, (l.map W.int).all (dataOk g (n + 1)) = true
  | [] => rfl
  | i :: r => by simp [dataOk]
theorem eqW_ints {g : G} {i j : Nat} {l : List Int} (h : g[i]? = some (.lst (l.map W.int))) (k : g[j]? = some (.lst (l.map W.int))) : eqW (.ref i) (.ref j) g = some true := by
  have d : ∀ {i : Nat}, g[i]? = some (.lst (l.map W.int)) → dataOk g 60 (.ref i) = true := by
    intro i h
    simp only [dataOk, lstOf, h]
    exact data_ints g 58 l
  simp only [eqW, scal2, d h, d k]
  simp only [eqb, lstOf, h, k, eqbs_ints g 58 l]
  simp
/-! ### operations, by the kinds of their values -/
@[simp] theorem run_add {a b : Int} {g : G} : Bop.run .add (.int a) (.int b) g = .ok (.int (a + b)) g := rfl
@[simp] theorem run_sub {a b : Int} {g : G} : Bop.run .sub (.int a) (.int b) g = .ok (.int (a - b)) g := rfl
@[simp] theorem run_mul {a b : Int} {g : G} (h : smallI a = true) (k : smallI b = true) : Bop.run .mul (.int a) (.int b) g = .ok (.int (a * b)) g := by simp [Bop.run, Bop.runI, h, k]
@[simp] theorem run_mod {a b : Int} {g : G} (h : 0 < b) : Bop.run .mod (.int a) (.int b) g = .ok (.int (a % b)) g := by simp [Bop.run, Bop.runI, h]
@[simp] theorem run_fdiv {a b : Int} {g : G} (h : 0 < b) (k : b.natAbs < 2 ^ 100) : Bop.run .fdiv (.int a) (.int b) g = .ok (.int (a / b)) g := by have := log_of k; simp [Bop.run, Bop.runI, h, this]
@[simp] theorem run_pow {a b : Int} {g : G} (h : 0 ≤ b) (k : b ≤ 1000000) (l : a.natAbs < 2 ^ 64) : Bop.run .pow (.int a) (.int b) g = .ok (.int (a ^ b.toNat)) g := by simp only [Bop.run, Bop.runI]; rw [if_pos ⟨h, k, l⟩]; rfl
@[simp] theorem run_band {a b : Int} {g : G} : Bop.run .band (.int a) (.int b) g = .ok (.int (PySem.Builtin.bitAnd a b)) g := rfl
@[simp] theorem run_bor {a b : Int} {g : G} : Bop.run .bor (.int a) (.int b) g = .ok (.int (PySem.Builtin.bitOr a b)) g := rfl
@[simp] theorem run_bxor {a b : Int} {g : G} : Bop.run .bxor (.int a) (.int b) g = .ok (.int (PySem.Builtin.bitXor a b)) g := rfl
@[simp] theorem run_catS {x y : List Nat} {g : G} (h : x.length + y.length ≤ lim) : Bop.run .add (.str x) (.str y) g = .ok (.str (x ++ y)) g := by simp [Bop.run, h]
@[simp] theorem run_catT {x y : List W} {g : G} (h : x.length + y.length ≤ lim) : Bop.run .add (.tup x) (.tup y) g = .ok (.tup (x ++ y)) g := by simp [Bop.run, h]
@[simp] theorem run_catL {i j : Nat} {g : G} : Bop.run .add (.ref i) (.ref j) g = (match g[i]?, g[j]? with | some (.lst x), some (.lst y) => if x.length + y.length ≤ lim then .ok (.ref g.length) (g ++ [.lst (x ++ y)]) else .err | _, _ => .err) := by
  rcases h : g[i]? with _ | (_|_|_) <;> rcases k : g[j]? with _ | (_|_|_) <;> simp [Bop.run, h, k]
@[simp] theorem run_repL {i : Nat} {k : Int} {g : G} : Bop.run .mul (.ref i) (.int k) g = (match g[i]? with | some (.lst x) => if k ≤ lim ∧ -lim ≤ k ∧ x.length * k.toNat ≤ lim then .ok (.ref g.length) (g ++ [.lst (List.replicate k.toNat x).flatten]) else .err | _ => .err) := by
  rcases h : g[i]? with _ | (_|_|_) <;> simp [Bop.run, h]
theorem lim_nat : lim = 1000000 := rfl
theorem lim_ok {n : Int} (h0 : -1000 ≤ n) (h1 : n ≤ 1000) : n ≤ (lim : Int) ∧ -(lim : Int) ≤ n := by have : (lim : Int) = 1000000 := rfl; omega
theorem lim_le {n : Nat} (h1 : n ≤ 1000) : n ≤ lim := by rw [lim_nat]; omega
@[simp] theorem lit_lim {n : Nat} (h : n ≤ 1000) : n ≤ lim := lim_le h
@[simp] theorem ilit_lim {n : Int} (h : n ≤ 1000) : n ≤ (lim : Int) := by have : (lim : Int) = 1000000 := rfl; omega
@[simp] theorem nlit_lim {n : Int} (h : -1000 ≤ n) : -(lim : Int) ≤ n := by have : (lim : Int) = 1000000 := rfl; omega
@[simp] theorem cop_lt {a b : Int} {g : G} : Cop.run .lt (.int a) (.int b) g = some (decide (a < b)) := rfl
@[simp] theorem cop_le {a b : Int} {g : G} : Cop.run .le (.int a) (.int b) g = some (decide (a ≤ b)) := rfl
@[simp] theorem cop_gt {a b : Int} {g : G} : Cop.run .gt (.int a) (.int b) g = some (decide (b < a)) := rfl
@[simp] theorem cop_ge {a b : Int} {g : G} : Cop.run .ge (.int a) (.int b) g = some (decide (b ≤ a)) := rfl
@[simp] theorem cop_eq_ii {a b : Int} {g : G} : Cop.run .eq (.int a) (.int b) g = some (decide (a = b)) := by simp [Cop.run, eqW, scal2, seqb, BEq.beq]
@[simp] theorem cop_eq_ss {a b : List Nat} {g : G} : Cop.run .eq (.str a) (.str b) g = some (decide (a = b)) := by by_cases h : a = b <;> simp [Cop.run, eqW, scal2, seqb, h]
@[simp] theorem cop_eq_bb {a b : Bool} {g : G} : Cop.run .eq (.bl a) (.bl b) g = some (decide (a = b)) := by cases a <;> cases b <;> rfl
@[simp] theorem cop_eq_intnon {a : Int} {g : G} : Cop.run .eq (.int a) .non g = some false := rfl
@[simp] theorem cop_eq_nonint {a : Int} {g : G} : Cop.run .eq .non (.int a) g = some false := rfl
@[simp] theorem cop_eq_strnon {s : List Nat} {g : G} : Cop.run .eq (.str s) .non g = some false := rfl
@[simp] theorem cop_eq_nonstr {s : List Nat} {g : G} : Cop.run .eq .non (.str s) g = some false := rfl
@[simp] theorem cop_eq_intstr {a : Int} {s : List Nat} {g : G} : Cop.run .eq (.int a) (.str s) g = some false := rfl
@[simp] theorem cop_eq_strint {a : Int} {s : List Nat} {g : G} : Cop.run .eq (.str s) (.int a) g = some false := rfl
@[simp] theorem cop_ne_ii {a b : Int} {g : G} : Cop.run .ne (.int a) (.int b) g = some (!decide (a = b)) := by simp [Cop.run, eqW, scal2, seqb, BEq.beq]
@[simp] theorem cop_ne_ss {a b : List Nat} {g : G} : Cop.run .ne (.str a) (.str b) g = some (!decide (a = b)) := by by_cases h : a = b <;> simp [Cop.run, eqW, scal2, seqb, h]
@[simp] theorem cop_ne_bb {a b : Bool} {g : G} : Cop.run .ne (.bl a) (.bl b) g = some (!decide (a = b)) := by cases a <;> cases b <;> rfl
@[simp] theorem cop_ne_intnon {a : Int} {g : G} : Cop.run .ne (.int a) .non g = some true := rfl
@[simp] theorem cop_ne_nonint {a : Int} {g : G} : Cop.run .ne .non (.int a) g = some true := rfl
@[simp] theorem cop_ne_strnon {s : List Nat} {g : G} : Cop.run .ne (.str s) .non g = some true := rfl
@[simp] theorem cop_ne_nonstr {s : List Nat} {g : G} : Cop.run .ne .non (.str s) g = some true := rfl
@[simp] theorem cop_ne_intstr {a : Int} {s : List Nat} {g : G} : Cop.run .ne (.int a) (.str s) g = some true := rfl
@[simp] theorem cop_ne_strint {a : Int} {s : List Nat} {g : G} : Cop.run .ne (.str s) (.int a) g = some true := rfl
@[simp] theorem cop_is {x : W} {g : G} : Cop.run .is_ x .non g = some (match x with | .non => true | _ => false) := by cases x <;> rfl
@[simp] theorem cop_isnot {x : W} {g : G} : Cop.run .isnot x .non g = some (match x with | .non => false | _ => true) := by cases x <;> rfl
@[simp] theorem tru_bl {b : Bool} {g : G} : truthW (.bl b) g = some b := rfl
@[simp] theorem tru_int {i : Int} {g : G} : truthW (.int i) g = some (!decide (i = 0)) := by by_cases h : i = 0 <;> simp [truthW, h, bne]
@[simp] theorem tru_tup {ws : List W} {g : G} : truthW (.tup ws) g = some (!ws.isEmpty) := rfl
@[simp] theorem tru_non {g : G} : truthW .non g = some false := rfl
@[simp] theorem b1_abs {i : Int} {g : G} : B1.run .abs (.int i) g = some (.int (if i < 0 then -i else i)) := rfl
@[simp] theorem b1_int {i : Int} {g : G} : B1.run .int (.int i) g = some (.int i) := rfl
@[simp] theorem b1_intb {i : Bool} {g : G} : B1.run .int (.bl i) g = some (.int (if i = true then 1 else 0)) := rfl
@[simp] theorem b1_lent {ws : List W} {g : G} : B1.run .len (.tup ws) g = some (.int ws.length) := rfl
@[simp] theorem b1_lenr {i : Nat} {g : G} : B1.run .len (.ref i) g = (match g[i]? with | some (.lst ws) => some (.int ws.length) | some (.dct kvs) => some (.int kvs.length) | some (.fz kvs) => some (.int kvs.length) | _ => none) := rfl
@[simp] theorem b1_lens {z : List Nat} {g : G} (h : z.length ≤ lim) : B1.run .len (.str z) g = some (.int z.length) := by simp [B1.run, h]
@[simp] theorem tru_ref {i : Nat} {g : G} : truthW (.ref i) g = (match g[i]? with | some (.lst ws) => some (!ws.isEmpty) | some (.dct kvs) => some (!kvs.isEmpty) | _ => none) := rfl
@[simp] theorem rbs_tuple {ws : List W} {g : G} : BS.run .tuple ws g = .ok (.tup ws) g := rfl
@[simp] theorem rbs_list {ws : List W} {g : G} : BS.run .list ws g = .ok (.ref g.length) (g ++ [.lst ws]) := rfl
@[simp] theorem rbs_any {ws : List W} {g : G} : BS.run .any ws g = R.of ((asBls ws).map fun l => W.bl (l.any id)) g := rfl
@[simp] theorem rbs_all {ws : List W} {g : G} : BS.run .all ws g = R.of ((asBls ws).map fun l => W.bl (l.all id)) g := rfl
@[simp] theorem rbs_sum {ws : List W} {g : G} : BS.run .sum ws g = R.of ((asInts ws).map fun l => W.int l.sum) g := rfl
theorem asBls_map : ∀ l : List Bool, asBls (l.map W.bl) = some l
  | [] => rfl
  | b :: r => by simp [asBls, asBls_map r]
theorem asInts_map : ∀ l : List Int, asInts (l.map W.int) = some l
  | [] => rfl
  | b :: r => by simp [asInts, asInts_map r]
theorem startE_def (n : Nat) (ws : List W) : startE n ws = ws.map some ++ List.replicate (n - ws.length) none := rfl
end Dl

namespace Kx
open PySem L2 Dl
def top (i : Nat) : Stmt := PySem.Challenge.pw_drawloom_k27_postdominators.main.body.getD i (.Pass ⟨0, 0, 0, 0⟩)
def clsBody : Stmt → List Stmt
  | .ClassDef _ _ _ b _ _ _ _ _ _ _ => b
  | _ => []
def n0 : List Str := [("end" : PySem.Str)]
def f0 : FnI where
  d := ⟨("ends_of", none), "ends_of", "ends_of", defArgs (top 1), defBody (top 1), defScope (top 1), [], []⟩
  N := n0
  ps := [("end" : PySem.Str)]
  d0 := rfl
  k0 := rfl
  sc := ⟨by kernel_rfl, by kernel_rfl, by kernel_rfl, by decide +kernel, by kernel_rfl, by decide +kernel, by decide +kernel⟩
  bd := fun _ _ _ _ _ _ us hl => match us, hl with | [_], _ => rfl
def n1 : List Str := [("graph" : PySem.Str), ("_" : PySem.Str), ("end" : PySem.Str)]
def f1 : FnI where
  d := ⟨("leads_to", none), "leads_to", "leads_to", defArgs (top 2), defBody (top 2), defScope (top 2), [], []⟩
  N := n1
  ps := [("graph" : PySem.Str)]
  d0 := rfl
  k0 := rfl
  sc := ⟨by kernel_rfl, by kernel_rfl, by kernel_rfl, by decide +kernel, by kernel_rfl, by decide +kernel, by decide +kernel⟩
  bd := fun _ _ _ _ _ _ us hl => match us, hl with | [_], _ => rfl
def n2 : List Str := [("graph" : PySem.Str), ("found" : PySem.Str), ("at" : PySem.Str), ("others" : PySem.Str), ("other" : PySem.Str), ("_" : PySem.Str)]
def f2 : FnI where
  d := ⟨("comes_from", none), "comes_from", "comes_from", defArgs (top 3), defBody (top 3), defScope (top 3), [], []⟩
  N := n2
  ps := [("graph" : PySem.Str)]
  d0 := rfl
  k0 := rfl
  sc := ⟨by kernel_rfl, by kernel_rfl, by kernel_rfl, by decide +kernel, by kernel_rfl, by decide +kernel, by decide +kernel⟩
  bd := fun _ _ _ _ _ _ us hl => match us, hl with | [_], _ => rfl
def n3 : List Str := [("edges" : PySem.Str), ("roots" : PySem.Str), ("count" : PySem.Str), ("found" : PySem.Str), ("root" : PySem.Str), ("backward" : PySem.Str), ("at" : PySem.Str), ("other" : PySem.Str), ("changed" : PySem.Str), ("rows" : PySem.Str), ("common" : PySem.Str), ("_" : PySem.Str), ("node" : PySem.Str), ("row" : PySem.Str)]
def f3 : FnI where
  d := ⟨("strict_sets", none), "strict_sets", "strict_sets", defArgs (top 5), defBody (top 5), defScope (top 5), [], []⟩
  N := n3
  ps := [("edges" : PySem.Str), ("roots" : PySem.Str), ("count" : PySem.Str)]
  d0 := rfl
  k0 := rfl
  sc := ⟨by kernel_rfl, by kernel_rfl, by kernel_rfl, by decide +kernel, by kernel_rfl, by decide +kernel, by decide +kernel⟩
  bd := fun _ _ _ _ _ _ us hl => match us, hl with | [_, _, _], _ => rfl
def n4 : List Str := [("sets" : PySem.Str), ("found" : PySem.Str), ("at" : PySem.Str), ("row" : PySem.Str), ("best" : PySem.Str), ("node" : PySem.Str)]
def f4 : FnI where
  d := ⟨("immediate", none), "immediate", "immediate", defArgs (top 6), defBody (top 6), defScope (top 6), [], []⟩
  N := n4
  ps := [("sets" : PySem.Str)]
  d0 := rfl
  k0 := rfl
  sc := ⟨by kernel_rfl, by kernel_rfl, by kernel_rfl, by decide +kernel, by kernel_rfl, by decide +kernel, by decide +kernel⟩
  bd := fun _ _ _ _ _ _ us hl => match us, hl with | [_], _ => rfl
def n5 : List Str := [("graph" : PySem.Str), ("count" : PySem.Str), ("edges" : PySem.Str), ("exits" : PySem.Str), ("found" : PySem.Str), ("rows" : PySem.Str), ("row" : PySem.Str), ("at" : PySem.Str), ("node" : PySem.Str)]
def f5 : FnI where
  d := ⟨("postdominator_sets", none), "postdominator_sets", "postdominator_sets", defArgs (top 7), defBody (top 7), defScope (top 7), [], []⟩
  N := n5
  ps := [("graph" : PySem.Str)]
  d0 := rfl
  k0 := rfl
  sc := ⟨by kernel_rfl, by kernel_rfl, by kernel_rfl, by decide +kernel, by kernel_rfl, by decide +kernel, by decide +kernel⟩
  bd := fun _ _ _ _ _ _ us hl => match us, hl with | [_], _ => rfl
def n6 : List Str := [("graph" : PySem.Str)]
def f6 : FnI where
  d := ⟨("postdominators", none), "postdominators", "postdominators", defArgs (top 8), defBody (top 8), defScope (top 8), [], []⟩
  N := n6
  ps := [("graph" : PySem.Str)]
  d0 := rfl
  k0 := rfl
  sc := ⟨by kernel_rfl, by kernel_rfl, by kernel_rfl, by decide +kernel, by kernel_rfl, by decide +kernel, by decide +kernel⟩
  bd := fun _ _ _ _ _ _ us hl => match us, hl with | [_], _ => rfl
def n7 : List Str := [("graph" : PySem.Str), ("b" : PySem.Str), ("edges" : PySem.Str), ("stop" : PySem.Str), ("found" : PySem.Str), ("waiting" : PySem.Str), ("node" : PySem.Str)]
def f7 : FnI where
  d := ⟨("region", none), "region", "region", defArgs (top 9), defBody (top 9), defScope (top 9), [], []⟩
  N := n7
  ps := [("graph" : PySem.Str), ("b" : PySem.Str)]
  d0 := rfl
  k0 := rfl
  sc := ⟨by kernel_rfl, by kernel_rfl, by kernel_rfl, by decide +kernel, by kernel_rfl, by decide +kernel, by decide +kernel⟩
  bd := fun _ _ _ _ _ _ us hl => match us, hl with | [_, _], _ => rfl
def n8 : List Str := [("_law_script" : PySem.Str), ("_law_mixed" : PySem.Str), ("_law_cell" : PySem.Str)]
def f8 : FnI where
  d := ⟨("_law_stream", none), "_law_stream", "_law_stream", defArgs (top 11), defBody (top 11), defScope (top 11), [], []⟩
  N := n8
  ps := [("_law_script" : PySem.Str)]
  d0 := rfl
  k0 := rfl
  sc := ⟨by kernel_rfl, by kernel_rfl, by kernel_rfl, by decide +kernel, by kernel_rfl, by decide +kernel, by decide +kernel⟩
  bd := fun _ _ _ _ _ _ us hl => match us, hl with | [_], _ => rfl
def n9 : List Str := [("_law_stream_here" : PySem.Str), ("_law_many" : PySem.Str), ("_law_value" : PySem.Str)]
def f9 : FnI where
  d := ⟨("_law_draw", none), "_law_draw", "_law_draw", defArgs (top 12), defBody (top 12), defScope (top 12), [], []⟩
  N := n9
  ps := [("_law_stream_here" : PySem.Str), ("_law_many" : PySem.Str)]
  d0 := rfl
  k0 := rfl
  sc := ⟨by kernel_rfl, by kernel_rfl, by kernel_rfl, by decide +kernel, by kernel_rfl, by decide +kernel, by decide +kernel⟩
  bd := fun _ _ _ _ _ _ us hl => match us, hl with | [_, _], _ => rfl
def n10 : List Str := [("_law_stream_here" : PySem.Str)]
def f10 : FnI where
  d := ⟨("_law_word", none), "_law_word", "_law_word", defArgs (top 13), defBody (top 13), defScope (top 13), [], []⟩
  N := n10
  ps := [("_law_stream_here" : PySem.Str)]
  d0 := rfl
  k0 := rfl
  sc := ⟨by kernel_rfl, by kernel_rfl, by kernel_rfl, by decide +kernel, by kernel_rfl, by decide +kernel, by decide +kernel⟩
  bd := fun _ _ _ _ _ _ us hl => match us, hl with | [_], _ => rfl
def n11 : List Str := [("_law_stream_here" : PySem.Str), ("_law_rows" : PySem.Str), ("_law_shared" : PySem.Str), ("_law_k" : PySem.Str)]
def f11 : FnI where
  d := ⟨("_law_frame", none), "_law_frame", "_law_frame", defArgs (top 14), defBody (top 14), defScope (top 14), [], []⟩
  N := n11
  ps := [("_law_stream_here" : PySem.Str)]
  d0 := rfl
  k0 := rfl
  sc := ⟨by kernel_rfl, by kernel_rfl, by kernel_rfl, by decide +kernel, by kernel_rfl, by decide +kernel, by decide +kernel⟩
  bd := fun _ _ _ _ _ _ us hl => match us, hl with | [_], _ => rfl
def n12 : List Str := [("_law_frame_here" : PySem.Str), ("_law_kind" : PySem.Str), ("_law_found" : PySem.Str), ("_law_k" : PySem.Str)]
def f12 : FnI where
  d := ⟨("_law_kinds", none), "_law_kinds", "_law_kinds", defArgs (top 15), defBody (top 15), defScope (top 15), [], []⟩
  N := n12
  ps := [("_law_frame_here" : PySem.Str), ("_law_kind" : PySem.Str)]
  d0 := rfl
  k0 := rfl
  sc := ⟨by kernel_rfl, by kernel_rfl, by kernel_rfl, by decide +kernel, by kernel_rfl, by decide +kernel, by decide +kernel⟩
  bd := fun _ _ _ _ _ _ us hl => match us, hl with | [_, _], _ => rfl
def n13 : List Str := [("_law_stream_here" : PySem.Str), ("_law_many" : PySem.Str), ("_law_frame_here" : PySem.Str), ("_law_waits" : PySem.Str), ("_law_pick" : PySem.Str), ("_law_d" : PySem.Str), ("_law_r" : PySem.Str), ("_law_s" : PySem.Str), ("_law_fold" : PySem.Str), ("_law_ints" : PySem.Str), ("_law_arrays" : PySem.Str), ("_law_names" : PySem.Str), ("_law_array" : PySem.Str)]
def f13 : FnI where
  d := ⟨("_law_instruction", none), "_law_instruction", "_law_instruction", defArgs (top 16), defBody (top 16), defScope (top 16), [], []⟩
  N := n13
  ps := [("_law_stream_here" : PySem.Str), ("_law_many" : PySem.Str), ("_law_frame_here" : PySem.Str), ("_law_waits" : PySem.Str)]
  d0 := rfl
  k0 := rfl
  sc := ⟨by kernel_rfl, by kernel_rfl, by kernel_rfl, by decide +kernel, by kernel_rfl, by decide +kernel, by decide +kernel⟩
  bd := fun _ _ _ _ _ _ us hl => match us, hl with | [_, _, _, _], _ => rfl
def n14 : List Str := [("_law_stream_here" : PySem.Str), ("_law_count" : PySem.Str), ("_law_many" : PySem.Str), ("_law_rows" : PySem.Str), ("_law_node" : PySem.Str), ("_law_free" : PySem.Str), ("_law_found" : PySem.Str), ("_law_k" : PySem.Str), ("_law_more" : PySem.Str), ("_law_r" : PySem.Str)]
def f14 : FnI where
  d := ⟨("_law_ends", none), "_law_ends", "_law_ends", defArgs (top 17), defBody (top 17), defScope (top 17), [], []⟩
  N := n14
  ps := [("_law_stream_here" : PySem.Str), ("_law_count" : PySem.Str), ("_law_many" : PySem.Str)]
  d0 := rfl
  k0 := rfl
  sc := ⟨by kernel_rfl, by kernel_rfl, by kernel_rfl, by decide +kernel, by kernel_rfl, by decide +kernel, by decide +kernel⟩
  bd := fun _ _ _ _ _ _ us hl => match us, hl with | [_, _, _], _ => rfl
def n15 : List Str := [("_law_stream_here" : PySem.Str), ("_law_most" : PySem.Str), ("_law_waits" : PySem.Str), ("_law_many" : PySem.Str), ("_law_frame_here" : PySem.Str), ("_law_count" : PySem.Str), ("_law_ends_here" : PySem.Str), ("_law_nodes" : PySem.Str), ("_law_k" : PySem.Str), ("_law_rows" : PySem.Str), ("_law_j" : PySem.Str)]
def f15 : FnI where
  d := ⟨("_law_flow", none), "_law_flow", "_law_flow", defArgs (top 18), defBody (top 18), defScope (top 18), [], []⟩
  N := n15
  ps := [("_law_stream_here" : PySem.Str), ("_law_most" : PySem.Str), ("_law_waits" : PySem.Str)]
  d0 := rfl
  k0 := rfl
  sc := ⟨by kernel_rfl, by kernel_rfl, by kernel_rfl, by decide +kernel, by kernel_rfl, by decide +kernel, by decide +kernel⟩
  bd := fun _ _ _ _ _ _ us hl => match us, hl with | [_, _, _], _ => rfl
def n16 : List Str := [("_law_nodes" : PySem.Str), ("_law_found" : PySem.Str), ("_law_node" : PySem.Str), ("_law_end" : PySem.Str)]
def f16 : FnI where
  d := ⟨("_law_leads", none), "_law_leads", "_law_leads", defArgs (top 19), defBody (top 19), defScope (top 19), [], []⟩
  N := n16
  ps := [("_law_nodes" : PySem.Str)]
  d0 := rfl
  k0 := rfl
  sc := ⟨by kernel_rfl, by kernel_rfl, by kernel_rfl, by decide +kernel, by kernel_rfl, by decide +kernel, by decide +kernel⟩
  bd := fun _ _ _ _ _ _ us hl => match us, hl with | [_], _ => rfl
def n17 : List Str := [("_law_rows" : PySem.Str), ("_law_starts" : PySem.Str), ("_law_without" : PySem.Str), ("_law_found" : PySem.Str), ("_law_waiting" : PySem.Str), ("_law_node" : PySem.Str), ("_law_other" : PySem.Str)]
def f17 : FnI where
  d := ⟨("_law_reached", none), "_law_reached", "_law_reached", defArgs (top 20), defBody (top 20), defScope (top 20), [], []⟩
  N := n17
  ps := [("_law_rows" : PySem.Str), ("_law_starts" : PySem.Str), ("_law_without" : PySem.Str)]
  d0 := rfl
  k0 := rfl
  sc := ⟨by kernel_rfl, by kernel_rfl, by kernel_rfl, by decide +kernel, by kernel_rfl, by decide +kernel, by decide +kernel⟩
  bd := fun _ _ _ _ _ _ us hl => match us, hl with | [_, _, _], _ => rfl
def n18 : List Str := [("_law_rows" : PySem.Str), ("_law_exits" : PySem.Str), ("_law_b" : PySem.Str), ("_law_a" : PySem.Str), ("_law_node" : PySem.Str)]
def f18 : FnI where
  d := ⟨("_law_ends_without", none), "_law_ends_without", "_law_ends_without", defArgs (top 21), defBody (top 21), defScope (top 21), [], []⟩
  N := n18
  ps := [("_law_rows" : PySem.Str), ("_law_exits" : PySem.Str), ("_law_b" : PySem.Str), ("_law_a" : PySem.Str)]
  d0 := rfl
  k0 := rfl
  sc := ⟨by kernel_rfl, by kernel_rfl, by kernel_rfl, by decide +kernel, by kernel_rfl, by decide +kernel, by decide +kernel⟩
  bd := fun _ _ _ _ _ _ us hl => match us, hl with | [_, _, _, _], _ => rfl
def nlaw : List Str := [("_law_script" : PySem.Str), ("_law_stream_here" : PySem.Str), ("_law_graph" : PySem.Str), ("_law_rows" : PySem.Str), ("_law_many" : PySem.Str), ("_law_exits" : PySem.Str), ("_law_due" : PySem.Str), ("_law_b" : PySem.Str), ("_law_found" : PySem.Str), ("_law_own" : PySem.Str), ("_law_a" : PySem.Str), ("_law_actual" : PySem.Str), ("_law_other" : PySem.Str), ("_law_k" : PySem.Str), ("_law_c" : PySem.Str)]
def flaw : FnI where
  d := ⟨("law", none), "law", "law", defArgs (top 22), defBody (top 22), defScope (top 22), [], []⟩
  N := nlaw
  ps := [("_law_script" : PySem.Str)]
  d0 := rfl
  k0 := rfl
  sc := ⟨by kernel_rfl, by kernel_rfl, by kernel_rfl, by decide +kernel, by kernel_rfl, by decide +kernel, by decide +kernel⟩
  bd := fun _ _ _ _ _ _ us hl => match us, hl with | [_], _ => rfl
def cls : List (Str × Cl) := []
def gl0 : List (Str × GV) := [("_law_draw", .fn 9),
  ("_law_ends", .fn 14),
  ("_law_ends_without", .fn 18),
  ("_law_flow", .fn 15),
  ("_law_frame", .fn 11),
  ("_law_instruction", .fn 13),
  ("_law_kinds", .fn 12),
  ("_law_leads", .fn 16),
  ("_law_reached", .fn 17),
  ("_law_stream", .fn 8),
  ("_law_word", .fn 10),
  ("abs", .blt .abs),
  ("all", .blt .all),
  ("comes_from", .fn 2),
  ("ends_of", .fn 0),
  ("enumerate", .blt .enumerate),
  ("immediate", .fn 4),
  ("int", .blt .int),
  ("leads_to", .fn 1),
  ("len", .blt .len),
  ("list", .blt .list),
  ("max", .blt .max),
  ("postdominator_sets", .fn 5),
  ("postdominators", .fn 6),
  ("range", .blt .range),
  ("region", .fn 7),
  ("repr", .blt .repr),
  ("sorted", .blt .sorted),
  ("strict_sets", .fn 3),
  ("tuple", .blt .tuple)]
def gl : List (Str × GV) := gl0
def g : Pg where
  fns := [f0, f1, f2, f3, f4, f5, f6, f7, f8, f9, f10, f11, f12, f13, f14, f15, f16, f17, f18]
  cls := cls
  exs := []
  gl := gl
  fld := []
/-! ends_of -/
def Fends_of_0a0 : S := (.ret (.lst (.cons (.idx (.var 0) (.cst (.int (1)))) .nil)))
def Fends_of_0a_t0 : SL := .cons Fends_of_0a0 .nil
def Fends_of_0 : S := (.ifs (.cmp .eq (.idx (.var 0) (.cst (.int (0)))) (.cst (.str [106, 117, 109, 112])))
 Fends_of_0a_t0
 .nil)
def Fends_of_1a0a0 : S := (.ret (.lst (.cons (.idx (.var 0) (.cst (.int (2)))) .nil)))
def Fends_of_1a0a_t0 : SL := .cons Fends_of_1a0a0 .nil
def Fends_of_1a0 : S := (.ifs (.cmp .eq (.idx (.var 0) (.cst (.int (2)))) (.idx (.var 0) (.cst (.int (3)))))
 Fends_of_1a0a_t0
 .nil)
def Fends_of_1a1 : S := (.ret (.lst (.cons (.idx (.var 0) (.cst (.int (2)))) (.cons (.idx (.var 0) (.cst (.int (3)))) .nil))))
def Fends_of_1a_t1 : SL := .cons Fends_of_1a1 .nil
def Fends_of_1a_t0 : SL := .cons Fends_of_1a0 Fends_of_1a_t1
def Fends_of_1 : S := (.ifs (.cmp .eq (.idx (.var 0) (.cst (.int (0)))) (.cst (.str [98, 114, 97, 110, 99, 104])))
 Fends_of_1a_t0
 .nil)
def Fends_of_2 : S := (.ret (.lst .nil))
def Fends_of_t2 : SL := .cons Fends_of_2 .nil
def Fends_of_t1 : SL := .cons Fends_of_1 Fends_of_t2
def Fends_of_t0 : SL := .cons Fends_of_0 Fends_of_t1
def b0 : SL := Fends_of_t0
/-! leads_to -/
def Fleads_to_0 : S := (.ret (.comp [1, 2] (.tp [1, 2]) (.seq (.idx (.var 0) (.cst (.int (3))))) (.cst (.bl true)) (.call 0 (.cons (.var 2) .nil))))
def Fleads_to_t0 : SL := .cons Fleads_to_0 .nil
def b1 : SL := Fleads_to_t0
/-! comes_from -/
def Fcomes_from_0 : S := (.asg (.nm 1) (.comp [5] (.nm 5) (.seq (.idx (.var 0) (.cst (.int (3))))) (.cst (.bl true)) (.lst .nil)))
def Fcomes_from_1f0f0 : S := (.expr (.mth .append (.idx (.var 1) (.var 4)) (.cons (.var 2) .nil)))
def Fcomes_from_1f0f_t0 : SL := .cons Fcomes_from_1f0f0 .nil
def Fcomes_from_1f0 : S := (.for_ (.nm 4) (.seq (.var 3))
 Fcomes_from_1f0f_t0)
def Fcomes_from_1f_t0 : SL := .cons Fcomes_from_1f0 .nil
def Fcomes_from_1 : S := (.for_ (.tp [2, 3]) (.enum (.call 1 (.cons (.var 0) .nil)))
 Fcomes_from_1f_t0)
def Fcomes_from_2 : S := (.ret (.var 1))
def Fcomes_from_t2 : SL := .cons Fcomes_from_2 .nil
def Fcomes_from_t1 : SL := .cons Fcomes_from_1 Fcomes_from_t2
def Fcomes_from_t0 : SL := .cons Fcomes_from_0 Fcomes_from_t1
def b2 : SL := Fcomes_from_t0
/-! strict_sets -/
def Fstrict_sets_0 : S := (.asg (.nm 3) (.bop .mul (.lst (.cons (.cst .non) .nil)) (.var 2)))
def Fstrict_sets_1f0 : S := (.put (.var 3) (.var 4) (.dnew (.cons (.var 4) (.cons (.cst (.bl true)) .nil))))
def Fstrict_sets_1f_t0 : SL := .cons Fstrict_sets_1f0 .nil
def Fstrict_sets_1 : S := (.for_ (.nm 4) (.seq (.var 1))
 Fstrict_sets_1f_t0)
def Fstrict_sets_2 : S := (.asg (.nm 5) (.comp [11] (.nm 11) (.rng1 (.var 2)) (.cst (.bl true)) (.lst .nil)))
def Fstrict_sets_3f0f0 : S := (.expr (.mth .append (.idx (.var 5) (.var 7)) (.cons (.var 6) .nil)))
def Fstrict_sets_3f0f_t0 : SL := .cons Fstrict_sets_3f0f0 .nil
def Fstrict_sets_3f0 : S := (.for_ (.nm 7) (.seq (.idx (.var 0) (.var 6)))
 Fstrict_sets_3f0f_t0)
def Fstrict_sets_3f_t0 : SL := .cons Fstrict_sets_3f0 .nil
def Fstrict_sets_3 : S := (.for_ (.nm 6) (.rng1 (.var 2))
 Fstrict_sets_3f_t0)
def Fstrict_sets_4 : S := (.asg (.nm 8) (.cst (.bl true)))
def Fstrict_sets_5w0 : S := (.asg (.nm 8) (.cst (.bl false)))
def Fstrict_sets_5w1f0a0 : S := .cnt
def Fstrict_sets_5w1f0a_t0 : SL := .cons Fstrict_sets_5w1f0a0 .nil
def Fstrict_sets_5w1f0 : S := (.ifs (.cmp .in_ (.var 6) (.var 1))
 Fstrict_sets_5w1f0a_t0
 .nil)
def Fstrict_sets_5w1f1 : S := (.asg (.nm 9) (.comp [7] (.nm 7) (.seq (.idx (.var 5) (.var 6))) (.cmp .isnot (.idx (.var 3) (.var 7)) (.cst .non)) (.idx (.var 3) (.var 7))))
def Fstrict_sets_5w1f2a0 : S := (.asg (.nm 10) (.dcomp [12] (.nm 12) (.seq (.idx (.var 9) (.cst (.int (0))))) (.bs .all (.comp [13] (.nm 13) (.seq (.var 9)) (.cst (.bl true)) (.cmp .in_ (.var 12) (.var 13)))) (.var 12) (.cst (.bl true))))
def Fstrict_sets_5w1f2a1 : S := (.put (.var 10) (.var 6) (.cst (.bl true)))
def Fstrict_sets_5w1f2a2a0 : S := (.put (.var 3) (.var 6) (.var 10))
def Fstrict_sets_5w1f2a2a1 : S := (.asg (.nm 8) (.cst (.bl true)))
def Fstrict_sets_5w1f2a2a_t1 : SL := .cons Fstrict_sets_5w1f2a2a1 .nil
def Fstrict_sets_5w1f2a2a_t0 : SL := .cons Fstrict_sets_5w1f2a2a0 Fstrict_sets_5w1f2a2a_t1
def Fstrict_sets_5w1f2a2 : S := (.ifs (.or (.cmp .is_ (.idx (.var 3) (.var 6)) (.cst .non)) (.cmp .lt (.b1 .len (.var 10)) (.b1 .len (.idx (.var 3) (.var 6)))))
 Fstrict_sets_5w1f2a2a_t0
 .nil)
def Fstrict_sets_5w1f2a_t2 : SL := .cons Fstrict_sets_5w1f2a2 .nil
def Fstrict_sets_5w1f2a_t1 : SL := .cons Fstrict_sets_5w1f2a1 Fstrict_sets_5w1f2a_t2
def Fstrict_sets_5w1f2a_t0 : SL := .cons Fstrict_sets_5w1f2a0 Fstrict_sets_5w1f2a_t1
def Fstrict_sets_5w1f2 : S := (.ifs (.var 9)
 Fstrict_sets_5w1f2a_t0
 .nil)
def Fstrict_sets_5w1f_t2 : SL := .cons Fstrict_sets_5w1f2 .nil
def Fstrict_sets_5w1f_t1 : SL := .cons Fstrict_sets_5w1f1 Fstrict_sets_5w1f_t2
def Fstrict_sets_5w1f_t0 : SL := .cons Fstrict_sets_5w1f0 Fstrict_sets_5w1f_t1
def Fstrict_sets_5w1 : S := (.for_ (.nm 6) (.rng1 (.var 2))
 Fstrict_sets_5w1f_t0)
def Fstrict_sets_5w_t1 : SL := .cons Fstrict_sets_5w1 .nil
def Fstrict_sets_5w_t0 : SL := .cons Fstrict_sets_5w0 Fstrict_sets_5w_t1
def Fstrict_sets_5 : S := (.whl (.var 8)
 Fstrict_sets_5w_t0)
def Fstrict_sets_6 : S := (.ret (.var 3))
def Fstrict_sets_t6 : SL := .cons Fstrict_sets_6 .nil
def Fstrict_sets_t5 : SL := .cons Fstrict_sets_5 Fstrict_sets_t6
def Fstrict_sets_t4 : SL := .cons Fstrict_sets_4 Fstrict_sets_t5
def Fstrict_sets_t3 : SL := .cons Fstrict_sets_3 Fstrict_sets_t4
def Fstrict_sets_t2 : SL := .cons Fstrict_sets_2 Fstrict_sets_t3
def Fstrict_sets_t1 : SL := .cons Fstrict_sets_1 Fstrict_sets_t2
def Fstrict_sets_t0 : SL := .cons Fstrict_sets_0 Fstrict_sets_t1
def b3 : SL := Fstrict_sets_t0
/-! immediate -/
def Fimmediate_0 : S := (.asg (.nm 1) (.lst .nil))
def Fimmediate_1f0 : S := (.asg (.nm 4) (.neg (.cst (.int (1)))))
def Fimmediate_1f1a0f0a0 : S := (.asg (.nm 4) (.var 5))
def Fimmediate_1f1a0f0a_t0 : SL := .cons Fimmediate_1f1a0f0a0 .nil
def Fimmediate_1f1a0f0 : S := (.ifs (.and (.cmp .ne (.var 5) (.var 2)) (.or (.cmp .lt (.var 4) (.cst (.int (0)))) (.cmp .gt (.b1 .len (.idx (.var 0) (.var 5))) (.b1 .len (.idx (.var 0) (.var 4))))))
 Fimmediate_1f1a0f0a_t0
 .nil)
def Fimmediate_1f1a0f_t0 : SL := .cons Fimmediate_1f1a0f0 .nil
def Fimmediate_1f1a0 : S := (.for_ (.nm 5) (.seq (.var 3))
 Fimmediate_1f1a0f_t0)
def Fimmediate_1f1a_t0 : SL := .cons Fimmediate_1f1a0 .nil
def Fimmediate_1f1 : S := (.ifs (.cmp .isnot (.var 3) (.cst .non))
 Fimmediate_1f1a_t0
 .nil)
def Fimmediate_1f2 : S := (.expr (.mth .append (.var 1) (.cons (.var 4) .nil)))
def Fimmediate_1f_t2 : SL := .cons Fimmediate_1f2 .nil
def Fimmediate_1f_t1 : SL := .cons Fimmediate_1f1 Fimmediate_1f_t2
def Fimmediate_1f_t0 : SL := .cons Fimmediate_1f0 Fimmediate_1f_t1
def Fimmediate_1 : S := (.for_ (.tp [2, 3]) (.enum (.var 0))
 Fimmediate_1f_t0)
def Fimmediate_2 : S := (.ret (.var 1))
def Fimmediate_t2 : SL := .cons Fimmediate_2 .nil
def Fimmediate_t1 : SL := .cons Fimmediate_1 Fimmediate_t2
def Fimmediate_t0 : SL := .cons Fimmediate_0 Fimmediate_t1
def b4 : SL := Fimmediate_t0
/-! postdominator_sets -/
def Fpostdominator_sets_0 : S := (.asg (.nm 1) (.b1 .len (.idx (.var 0) (.cst (.int (3))))))
def Fpostdominator_sets_1 : S := (.asg (.nm 2) (.comp [6] (.nm 6) (.seq (.call 2 (.cons (.var 0) .nil))) (.cst (.bl true)) (.bt .list (.var 6))))
def Fpostdominator_sets_2 : S := (.asg (.nm 3) (.comp [7, 8] (.tp [7, 8]) (.enum (.idx (.var 0) (.cst (.int (3))))) (.cmp .eq (.idx (.var 8) (.cst (.int (1)))) (.tup (.cons (.cst (.str [101, 120, 105, 116])) .nil))) (.var 7)))
def Fpostdominator_sets_3 : S := (.expr (.mth .append (.var 2) (.cons (.var 3) .nil)))
def Fpostdominator_sets_4 : S := (.asg (.nm 4) (.call 3 (.cons (.var 2) (.cons (.tup (.cons (.var 1) .nil)) (.cons (.bop .add (.var 1) (.cst (.int (1)))) .nil)))))
def Fpostdominator_sets_5 : S := (.asg (.nm 5) (.lst .nil))
def Fpostdominator_sets_6f0a0 : S := (.asg (.nm 6) (.dcomp [8] (.nm 8) (.seq (.var 6)) (.cmp .ne (.var 8) (.var 1)) (.var 8) (.cst (.bl true))))
def Fpostdominator_sets_6f0a_t0 : SL := .cons Fpostdominator_sets_6f0a0 .nil
def Fpostdominator_sets_6f0 : S := (.ifs (.cmp .isnot (.var 6) (.cst .non))
 Fpostdominator_sets_6f0a_t0
 .nil)
def Fpostdominator_sets_6f1 : S := (.expr (.mth .append (.var 5) (.cons (.var 6) .nil)))
def Fpostdominator_sets_6f_t1 : SL := .cons Fpostdominator_sets_6f1 .nil
def Fpostdominator_sets_6f_t0 : SL := .cons Fpostdominator_sets_6f0 Fpostdominator_sets_6f_t1
def Fpostdominator_sets_6 : S := (.for_ (.nm 6) (.seq (.shi (.var 4) (.var 1)))
 Fpostdominator_sets_6f_t0)
def Fpostdominator_sets_7 : S := (.ret (.var 5))
def Fpostdominator_sets_t7 : SL := .cons Fpostdominator_sets_7 .nil
def Fpostdominator_sets_t6 : SL := .cons Fpostdominator_sets_6 Fpostdominator_sets_t7
def Fpostdominator_sets_t5 : SL := .cons Fpostdominator_sets_5 Fpostdominator_sets_t6
def Fpostdominator_sets_t4 : SL := .cons Fpostdominator_sets_4 Fpostdominator_sets_t5
def Fpostdominator_sets_t3 : SL := .cons Fpostdominator_sets_3 Fpostdominator_sets_t4
def Fpostdominator_sets_t2 : SL := .cons Fpostdominator_sets_2 Fpostdominator_sets_t3
def Fpostdominator_sets_t1 : SL := .cons Fpostdominator_sets_1 Fpostdominator_sets_t2
def Fpostdominator_sets_t0 : SL := .cons Fpostdominator_sets_0 Fpostdominator_sets_t1
def b5 : SL := Fpostdominator_sets_t0
/-! postdominators -/
def Fpostdominators_0 : S := (.ret (.call 4 (.cons (.call 5 (.cons (.var 0) .nil)) .nil)))
def Fpostdominators_t0 : SL := .cons Fpostdominators_0 .nil
def b6 : SL := Fpostdominators_t0
/-! region -/
def Fregion_0 : S := (.asg (.nm 2) (.call 1 (.cons (.var 0) .nil)))
def Fregion_1 : S := (.asg (.nm 3) (.idx (.call 6 (.cons (.var 0) .nil)) (.var 1)))
def Fregion_2 : S := (.asg (.nm 4) (.dnew .nil))
def Fregion_3 : S := (.asg (.nm 5) (.bt .list (.idx (.var 2) (.var 1))))
def Fregion_4w0 : S := (.asg (.nm 6) (.mth .pop0 (.var 5) .nil))
def Fregion_4w1a0 : S := (.put (.var 4) (.var 6) (.cst (.bl true)))
def Fregion_4w1a1 : S := (.expr (.mth .extend (.var 5) (.cons (.idx (.var 2) (.var 6)) .nil)))
def Fregion_4w1a_t1 : SL := .cons Fregion_4w1a1 .nil
def Fregion_4w1a_t0 : SL := .cons Fregion_4w1a0 Fregion_4w1a_t1
def Fregion_4w1 : S := (.ifs (.and (.cmp .ne (.var 6) (.var 3)) (.cmp .notin (.var 6) (.var 4)))
 Fregion_4w1a_t0
 .nil)
def Fregion_4w_t1 : SL := .cons Fregion_4w1 .nil
def Fregion_4w_t0 : SL := .cons Fregion_4w0 Fregion_4w_t1
def Fregion_4 : S := (.whl (.var 5)
 Fregion_4w_t0)
def Fregion_5 : S := (.ret (.srt (.var 4)))
def Fregion_t5 : SL := .cons Fregion_5 .nil
def Fregion_t4 : SL := .cons Fregion_4 Fregion_t5
def Fregion_t3 : SL := .cons Fregion_3 Fregion_t4
def Fregion_t2 : SL := .cons Fregion_2 Fregion_t3
def Fregion_t1 : SL := .cons Fregion_1 Fregion_t2
def Fregion_t0 : SL := .cons Fregion_0 Fregion_t1
def b7 : SL := Fregion_t0
/-! _law_stream -/
def Lstream_0 : S := (.asg (.nm 1) (.cst (.int (17))))
def Lstream_1f0 : S := (.asg (.nm 1) (.bop .mod (.b1 .int (.bop .add (.bop .add (.bop .mul (.var 1) (.cst (.int (48271)))) (.bop .mod (.b1 .int (.var 2)) (.cst (.int (65521))))) (.cst (.int (1))))) (.cst (.int (2147483647)))))
def Lstream_1f_t0 : SL := .cons Lstream_1f0 .nil
def Lstream_1 : S := (.for_ (.nm 2) (.seq (.var 0))
 Lstream_1f_t0)
def Lstream_2 : S := (.ret (.lst (.cons (.bt .list (.var 0)) (.cons (.cst (.int (0))) (.cons (.cst (.int (0))) (.cons (.var 1) .nil))))))
def Lstream_t2 : SL := .cons Lstream_2 .nil
def Lstream_t1 : SL := .cons Lstream_1 Lstream_t2
def Lstream_t0 : SL := .cons Lstream_0 Lstream_t1
def b8 : SL := Lstream_t0
/-! _law_draw -/
def Ldraw_0a0 : S := (.put (.var 0) (.cst (.int (1))) (.b1 .abs (.b1 .int (.idx (.idx (.var 0) (.cst (.int (0)))) (.idx (.var 0) (.cst (.int (2))))))))
def Ldraw_0a1 : S := (.put (.var 0) (.cst (.int (2))) (.bop .add (.idx (.var 0) (.cst (.int (2)))) (.cst (.int (1)))))
def Ldraw_0a_t1 : SL := .cons Ldraw_0a1 .nil
def Ldraw_0a_t0 : SL := .cons Ldraw_0a0 Ldraw_0a_t1
def Ldraw_0 : S := (.ifs (.and (.cmp .eq (.idx (.var 0) (.cst (.int (1)))) (.cst (.int (0)))) (.cmp .lt (.idx (.var 0) (.cst (.int (2)))) (.b1 .len (.idx (.var 0) (.cst (.int (0)))))))
 Ldraw_0a_t0
 .nil)
def Ldraw_1a0 : S := (.put (.var 0) (.cst (.int (3))) (.bop .mod (.b1 .int (.bop .add (.bop .mul (.idx (.var 0) (.cst (.int (3)))) (.cst (.int (48271)))) (.cst (.int (11))))) (.cst (.int (2147483647)))))
def Ldraw_1a1 : S := (.ret (.bop .mod (.b1 .int (.bop .fdiv (.idx (.var 0) (.cst (.int (3)))) (.cst (.int (97))))) (.var 1)))
def Ldraw_1a_t1 : SL := .cons Ldraw_1a1 .nil
def Ldraw_1a_t0 : SL := .cons Ldraw_1a0 Ldraw_1a_t1
def Ldraw_1 : S := (.ifs (.cmp .eq (.idx (.var 0) (.cst (.int (1)))) (.cst (.int (0))))
 Ldraw_1a_t0
 .nil)
def Ldraw_2 : S := (.asg (.nm 2) (.bop .mod (.b1 .int (.idx (.var 0) (.cst (.int (1))))) (.var 1)))
def Ldraw_3 : S := (.put (.var 0) (.cst (.int (1))) (.bop .fdiv (.idx (.var 0) (.cst (.int (1)))) (.var 1)))
def Ldraw_4 : S := (.ret (.var 2))
def Ldraw_t4 : SL := .cons Ldraw_4 .nil
def Ldraw_t3 : SL := .cons Ldraw_3 Ldraw_t4
def Ldraw_t2 : SL := .cons Ldraw_2 Ldraw_t3
def Ldraw_t1 : SL := .cons Ldraw_1 Ldraw_t2
def Ldraw_t0 : SL := .cons Ldraw_0 Ldraw_t1
def b9 : SL := Ldraw_t0
/-! _law_word -/
def Lword_0a0 : S := (.ret (.idx (.lst (.cons (.bop .sub (.bop .pow (.cst (.int (2))) (.cst (.int (31)))) (.cst (.int (1)))) (.cons (.bop .sub (.cst (.int (0))) (.bop .pow (.cst (.int (2))) (.cst (.int (31))))) (.cons (.cst (.int (65536))) (.cons (.neg (.cst (.int (1)))) (.cons (.cst (.int (1000))) (.cons (.cst (.int (12345678))) .nil))))))) (.call 9 (.cons (.var 0) (.cons (.cst (.int (6))) .nil)))))
def Lword_0a_t0 : SL := .cons Lword_0a0 .nil
def Lword_0 : S := (.ifs (.cmp .eq (.call 9 (.cons (.var 0) (.cons (.cst (.int (9))) .nil))) (.cst (.int (0))))
 Lword_0a_t0
 .nil)
def Lword_1 : S := (.ret (.bop .sub (.call 9 (.cons (.var 0) (.cons (.cst (.int (7))) .nil))) (.cst (.int (2)))))
def Lword_t1 : SL := .cons Lword_1 .nil
def Lword_t0 : SL := .cons Lword_0 Lword_t1
def b10 : SL := Lword_t0
/-! _law_frame -/
def Lframe_0 : S := (.asg (.nm 1) (.lst (.cons (.tup (.cons (.tup (.cons (.cst (.str [110])) (.cons (.cst (.str [105, 110, 116])) .nil))) (.cons (.tup (.cons (.cst (.str [97])) (.cons (.cst (.str [98, 117, 102, 102, 101, 114])) .nil))) (.cons (.tup (.cons (.cst (.str [98])) (.cons (.cst (.str [98, 117, 102, 102, 101, 114])) .nil))) .nil)))) (.cons (.tup (.cons (.tup (.cons (.cst (.str [97])) (.cons (.cst (.str [98, 117, 102, 102, 101, 114])) .nil))) (.cons (.tup (.cons (.cst (.str [109])) (.cons (.cst (.str [105, 110, 116])) .nil))) (.cons (.tup (.cons (.cst (.str [110])) (.cons (.cst (.str [105, 110, 116])) .nil))) .nil)))) (.cons (.tup .nil) .nil)))))
def Lframe_1 : S := (.asg (.nm 1) (.bop .add (.lst (.cons (.tup (.cons (.tup (.cons (.cst (.str [110])) (.cons (.cst (.str [105, 110, 116])) .nil))) (.cons (.tup (.cons (.cst (.str [109])) (.cons (.cst (.str [105, 110, 116])) .nil))) (.cons (.tup (.cons (.cst (.str [97])) (.cons (.cst (.str [98, 117, 102, 102, 101, 114])) .nil))) (.cons (.tup (.cons (.cst (.str [107])) (.cons (.cst (.str [105, 110, 116])) .nil))) (.cons (.tup (.cons (.cst (.str [98])) (.cons (.cst (.str [98, 117, 102, 102, 101, 114])) .nil))) (.cons (.tup (.cons (.cst (.str [99])) (.cons (.cst (.str [98, 117, 102, 102, 101, 114])) .nil))) .nil))))))) .nil)) (.var 1)))
def Lframe_2 : S := (.asg (.nm 2) (.bs .tuple (.comp [3] (.nm 3) (.rng1 (.call 9 (.cons (.var 0) (.cons (.cst (.int (4))) .nil)))) (.cst (.bl true)) (.tup (.cons (.idx (.lst (.cons (.cst (.str [115])) (.cons (.cst (.str [115, 50])) (.cons (.cst (.str [115, 51])) .nil)))) (.var 3)) (.cons (.idx (.lst (.cons (.cst (.int (1))) (.cons (.cst (.int (2))) (.cons (.cst (.int (4))) (.cons (.cst (.int (9))) (.cons (.cst (.int (16))) .nil)))))) (.call 9 (.cons (.var 0) (.cons (.cst (.int (5))) .nil)))) .nil))))))
def Lframe_3 : S := (.ret (.tup (.cons (.idx (.var 1) (.bop .fdiv (.b1 .int (.call 9 (.cons (.var 0) (.cons (.cst (.int (10))) .nil)))) (.cst (.int (3))))) (.cons (.var 2) .nil))))
def Lframe_t3 : SL := .cons Lframe_3 .nil
def Lframe_t2 : SL := .cons Lframe_2 Lframe_t3
def Lframe_t1 : SL := .cons Lframe_1 Lframe_t2
def Lframe_t0 : SL := .cons Lframe_0 Lframe_t1
def b11 : SL := Lframe_t0
/-! _law_kinds -/
def Lkinds_0 : S := (.asg (.nm 2) (.comp [3] (.nm 3) (.rng1 (.b1 .len (.idx (.var 0) (.cst (.int (0)))))) (.cmp .eq (.idx (.idx (.idx (.var 0) (.cst (.int (0)))) (.var 3)) (.cst (.int (1)))) (.var 1)) (.var 3)))
def Lkinds_1a0 : S := (.asg (.nm 2) (.bop .add (.var 2) (.comp [3] (.nm 3) (.rng1 (.b1 .len (.idx (.var 0) (.cst (.int (1)))))) (.cst (.bl true)) (.bop .add (.cst (.int (6))) (.var 3)))))
def Lkinds_1a_t0 : SL := .cons Lkinds_1a0 .nil
def Lkinds_1 : S := (.ifs (.cmp .eq (.var 1) (.cst (.str [98, 117, 102, 102, 101, 114])))
 Lkinds_1a_t0
 .nil)
def Lkinds_2 : S := (.ret (.var 2))
def Lkinds_t2 : SL := .cons Lkinds_2 .nil
def Lkinds_t1 : SL := .cons Lkinds_1 Lkinds_t2
def Lkinds_t0 : SL := .cons Lkinds_0 Lkinds_t1
def b12 : SL := Lkinds_t0
/-! _law_instruction -/
def Linstruction_0 : S := (.asg (.nm 4) (.call 9 (.cons (.var 0) (.cons (.bop .add (.cst (.int (14))) (.bop .mul (.cst (.int (2))) (.var 3))) .nil))))
def Linstruction_1 : S := (.asg (.nm 5) (.call 9 (.cons (.var 0) (.cons (.var 1) .nil))))
def Linstruction_2 : S := (.asg (.nm 6) (.call 9 (.cons (.var 0) (.cons (.var 1) .nil))))
def Linstruction_3 : S := (.asg (.nm 7) (.call 9 (.cons (.var 0) (.cons (.var 1) .nil))))
def Linstruction_4 : S := (.asg (.nm 8) (.idx (.lst (.cons (.cst (.str [97, 100, 100])) (.cons (.cst (.str [109, 105, 110])) (.cons (.cst (.str [109, 97, 120])) (.cons (.cst (.str [97, 110, 100])) (.cons (.cst (.str [111, 114])) (.cons (.cst (.str [120, 111, 114])) .nil))))))) (.call 9 (.cons (.var 0) (.cons (.cst (.int (6))) .nil)))))
def Linstruction_5 : S := (.asg (.nm 9) (.call 12 (.cons (.var 2) (.cons (.cst (.str [105, 110, 116])) .nil))))
def Linstruction_6 : S := (.asg (.nm 10) (.call 12 (.cons (.var 2) (.cons (.cst (.str [98, 117, 102, 102, 101, 114])) .nil))))
def Linstruction_7a0 : S := (.ret (.tup (.cons (.cst (.str [119, 111, 114, 100])) (.cons (.var 5) (.cons (.call 10 (.cons (.var 0) .nil)) .nil)))))
def Linstruction_7a_t0 : SL := .cons Linstruction_7a0 .nil
def Linstruction_7 : S := (.ifs (.or (.cmp .lt (.var 4) (.cst (.int (3)))) (.or (.and (.cmp .eq (.var 4) (.cst (.int (3)))) (.cmp .eq (.b1 .len (.var 9)) (.cst (.int (0))))) (.and (.chain .lt .lt (.cst (.int (9))) (.var 4) (.cst (.int (14)))) (.cmp .eq (.b1 .len (.var 10)) (.cst (.int (0)))))))
 Linstruction_7a_t0
 .nil)
def Linstruction_8a0 : S := (.ret (.tup (.cons (.cst (.str [112, 97, 114, 97, 109])) (.cons (.var 5) (.cons (.idx (.var 9) (.call 9 (.cons (.var 0) (.cons (.b1 .len (.var 9)) .nil)))) .nil)))))
def Linstruction_8a_t0 : SL := .cons Linstruction_8a0 .nil
def Linstruction_8 : S := (.ifs (.cmp .eq (.var 4) (.cst (.int (3))))
 Linstruction_8a_t0
 .nil)
def Linstruction_9a0 : S := (.ret (.tup (.cons (.cst (.str [115, 112, 101, 99, 105, 97, 108])) (.cons (.var 5) (.cons (.idx (.lst (.cons (.cst (.str [116, 105, 100])) (.cons (.cst (.str [98, 105, 100])) (.cons (.cst (.str [100, 105, 109])) (.cons (.cst (.str [103, 114, 105, 100])) .nil))))) (.call 9 (.cons (.var 0) (.cons (.cst (.int (4))) .nil)))) .nil)))))
def Linstruction_9a_t0 : SL := .cons Linstruction_9a0 .nil
def Linstruction_9 : S := (.ifs (.cmp .eq (.var 4) (.cst (.int (4))))
 Linstruction_9a_t0
 .nil)
def Linstruction_10a0 : S := (.ret (.tup (.cons (.cst (.str [99, 111, 112, 121])) (.cons (.var 5) (.cons (.var 6) .nil)))))
def Linstruction_10a_t0 : SL := .cons Linstruction_10a0 .nil
def Linstruction_10 : S := (.ifs (.cmp .eq (.var 4) (.cst (.int (5))))
 Linstruction_10a_t0
 .nil)
def Linstruction_11a0 : S := (.ret (.tup (.cons (.cst (.str [117, 110, 97, 114, 121])) (.cons (.idx (.lst (.cons (.cst (.str [110, 101, 103])) (.cons (.cst (.str [110, 111, 116])) (.cons (.cst (.str [122, 101, 114, 111])) .nil)))) (.call 9 (.cons (.var 0) (.cons (.cst (.int (3))) .nil)))) (.cons (.var 5) (.cons (.var 6) .nil))))))
def Linstruction_11a_t0 : SL := .cons Linstruction_11a0 .nil
def Linstruction_11 : S := (.ifs (.cmp .eq (.var 4) (.cst (.int (6))))
 Linstruction_11a_t0
 .nil)
def Linstruction_12a0 : S := (.asg (.nm 11) (.lst (.cons (.cst (.str [97, 100, 100])) (.cons (.cst (.str [115, 117, 98])) (.cons (.cst (.str [109, 117, 108])) (.cons (.cst (.str [100, 105, 118])) (.cons (.cst (.str [114, 101, 109])) (.cons (.cst (.str [97, 110, 100])) (.cons (.cst (.str [111, 114])) (.cons (.cst (.str [120, 111, 114])) (.cons (.cst (.str [115, 104, 108])) (.cons (.cst (.str [115, 104, 114])) (.cons (.cst (.str [108, 116])) (.cons (.cst (.str [108, 101])) (.cons (.cst (.str [101, 113])) (.cons (.cst (.str [110, 101])) (.cons (.cst (.str [109, 105, 110])) (.cons (.cst (.str [109, 97, 120])) .nil))))))))))))))))))
def Linstruction_12a1 : S := (.ret (.tup (.cons (.cst (.str [98, 105, 110, 97, 114, 121])) (.cons (.idx (.var 11) (.call 9 (.cons (.var 0) (.cons (.cst (.int (16))) .nil)))) (.cons (.var 5) (.cons (.var 6) (.cons (.var 7) .nil)))))))
def Linstruction_12a_t1 : SL := .cons Linstruction_12a1 .nil
def Linstruction_12a_t0 : SL := .cons Linstruction_12a0 Linstruction_12a_t1
def Linstruction_12 : S := (.ifs (.cmp .lt (.var 4) (.cst (.int (10))))
 Linstruction_12a_t0
 .nil)
def Linstruction_13a0 : S := (.ret (.tup (.cons (.cst (.str [98, 97, 114, 114, 105, 101, 114])) (.cons (.call 9 (.cons (.var 0) (.cons (.cst (.int (3))) .nil))) .nil))))
def Linstruction_13a_t0 : SL := .cons Linstruction_13a0 .nil
def Linstruction_13 : S := (.ifs (.cmp .eq (.var 4) (.cst (.int (14))))
 Linstruction_13a_t0
 .nil)
def Linstruction_14a0 : S := (.ret (.tup (.cons (.cst (.str [99, 111, 108, 108, 101, 99, 116])) (.cons (.var 8) (.cons (.var 5) (.cons (.var 6) (.cons (.call 9 (.cons (.var 0) (.cons (.cst (.int (3))) .nil))) .nil)))))))
def Linstruction_14a_t0 : SL := .cons Linstruction_14a0 .nil
def Linstruction_14 : S := (.ifs (.cmp .eq (.var 4) (.cst (.int (15))))
 Linstruction_14a_t0
 .nil)
def Linstruction_15 : S := (.asg (.nm 12) (.idx (.var 10) (.call 9 (.cons (.var 0) (.cons (.b1 .len (.var 10)) .nil)))))
def Linstruction_16 : S := (.ret (.idx (.lst (.cons (.tup (.cons (.cst (.str [108, 111, 97, 100])) (.cons (.var 5) (.cons (.var 12) (.cons (.var 6) .nil))))) (.cons (.tup (.cons (.cst (.str [115, 116, 111, 114, 101])) (.cons (.var 12) (.cons (.var 6) (.cons (.var 7) .nil))))) (.cons (.tup (.cons (.cst (.str [115, 116, 111, 114, 101])) (.cons (.var 12) (.cons (.var 6) (.cons (.var 7) .nil))))) (.cons (.tup (.cons (.cst (.str [97, 116, 111, 109, 105, 99])) (.cons (.var 8) (.cons (.var 12) (.cons (.var 6) (.cons (.var 7) .nil)))))) .nil))))) (.bop .sub (.var 4) (.cst (.int (10))))))
def Linstruction_t16 : SL := .cons Linstruction_16 .nil
def Linstruction_t15 : SL := .cons Linstruction_15 Linstruction_t16
def Linstruction_t14 : SL := .cons Linstruction_14 Linstruction_t15
def Linstruction_t13 : SL := .cons Linstruction_13 Linstruction_t14
def Linstruction_t12 : SL := .cons Linstruction_12 Linstruction_t13
def Linstruction_t11 : SL := .cons Linstruction_11 Linstruction_t12
def Linstruction_t10 : SL := .cons Linstruction_10 Linstruction_t11
def Linstruction_t9 : SL := .cons Linstruction_9 Linstruction_t10
def Linstruction_t8 : SL := .cons Linstruction_8 Linstruction_t9
def Linstruction_t7 : SL := .cons Linstruction_7 Linstruction_t8
def Linstruction_t6 : SL := .cons Linstruction_6 Linstruction_t7
def Linstruction_t5 : SL := .cons Linstruction_5 Linstruction_t6
def Linstruction_t4 : SL := .cons Linstruction_4 Linstruction_t5
def Linstruction_t3 : SL := .cons Linstruction_3 Linstruction_t4
def Linstruction_t2 : SL := .cons Linstruction_2 Linstruction_t3
def Linstruction_t1 : SL := .cons Linstruction_1 Linstruction_t2
def Linstruction_t0 : SL := .cons Linstruction_0 Linstruction_t1
def b13 : SL := Linstruction_t0
/-! _law_ends -/
def Lends_0 : S := (.asg (.nm 3) (.comp [7] (.nm 7) (.rng1 (.var 1)) (.cst (.bl true)) (.lst .nil)))
def Lends_1f0 : S := (.asg (.nm 5) (.comp [7] (.nm 7) (.rng1 (.var 4)) (.cmp .lt (.b1 .len (.idx (.var 3) (.var 7))) (.cst (.int (2)))) (.var 7)))
def Lends_1f1 : S := (.expr (.mth .append (.idx (.var 3) (.idx (.var 5) (.call 9 (.cons (.var 0) (.cons (.b1 .len (.var 5)) .nil))))) (.cons (.var 4) .nil)))
def Lends_1f_t1 : SL := .cons Lends_1f1 .nil
def Lends_1f_t0 : SL := .cons Lends_1f0 Lends_1f_t1
def Lends_1 : S := (.for_ (.nm 4) (.rng2 (.cst (.int (1))) (.var 1))
 Lends_1f_t0)
def Lends_2 : S := (.asg (.nm 6) (.lst .nil))
def Lends_3f0 : S := (.asg (.nm 8) (.bop .add (.call 9 (.cons (.var 0) (.cons (.max2 (.cst (.int (1))) (.bop .sub (.var 1) (.cst (.int (1))))) .nil))) (.cst (.int (1)))))
def Lends_3f1 : S := (.asg (.nm 9) (.call 9 (.cons (.var 0) (.cons (.var 2) .nil))))
def Lends_3f2a0 : S := (.expr (.mth .append (.var 6) (.cons (.tup (.cons (.cst (.str [101, 120, 105, 116])) .nil)) .nil)))
def Lends_3f2a_t0 : SL := .cons Lends_3f2a0 .nil
def Lends_3f2b0a0 : S := (.expr (.mth .append (.var 6) (.cons (.idx (.lst (.cons (.tup (.cons (.cst (.str [106, 117, 109, 112])) (.cons (.var 8) .nil))) (.cons (.tup (.cons (.cst (.str [98, 114, 97, 110, 99, 104])) (.cons (.var 9) (.cons (.var 8) (.cons (.bop .add (.cst (.int (1))) (.call 9 (.cons (.var 0) (.cons (.bop .sub (.var 1) (.cst (.int (1)))) .nil)))) .nil))))) .nil))) (.call 9 (.cons (.var 0) (.cons (.cst (.int (2))) .nil)))) .nil)))
def Lends_3f2b0a_t0 : SL := .cons Lends_3f2b0a0 .nil
def Lends_3f2b0b0a0 : S := (.expr (.mth .append (.var 6) (.cons (.tup (.cons (.cst (.str [106, 117, 109, 112])) (.cons (.idx (.idx (.var 3) (.var 7)) (.cst (.int (0)))) .nil))) .nil)))
def Lends_3f2b0b0a_t0 : SL := .cons Lends_3f2b0b0a0 .nil
def Lends_3f2b0b0b0a0 : S := (.expr (.mth .append (.var 6) (.cons (.idx (.lst (.cons (.tup (.cons (.cst (.str [98, 114, 97, 110, 99, 104])) (.cons (.var 9) (.cons (.idx (.idx (.var 3) (.var 7)) (.cst (.int (0)))) (.cons (.var 8) .nil))))) (.cons (.tup (.cons (.cst (.str [98, 114, 97, 110, 99, 104])) (.cons (.var 9) (.cons (.var 8) (.cons (.idx (.idx (.var 3) (.var 7)) (.cst (.int (0)))) .nil))))) .nil))) (.call 9 (.cons (.var 0) (.cons (.cst (.int (2))) .nil)))) .nil)))
def Lends_3f2b0b0b0a_t0 : SL := .cons Lends_3f2b0b0b0a0 .nil
def Lends_3f2b0b0b0b0 : S := (.expr (.mth .append (.var 6) (.cons (.tup (.cons (.cst (.str [98, 114, 97, 110, 99, 104])) (.cons (.var 9) (.cons (.idx (.idx (.var 3) (.var 7)) (.cst (.int (0)))) (.cons (.idx (.idx (.var 3) (.var 7)) (.cst (.int (1)))) .nil))))) .nil)))
def Lends_3f2b0b0b0b_t0 : SL := .cons Lends_3f2b0b0b0b0 .nil
def Lends_3f2b0b0b0 : S := (.ifs (.cmp .eq (.b1 .len (.idx (.var 3) (.var 7))) (.cst (.int (1))))
 Lends_3f2b0b0b0a_t0
 Lends_3f2b0b0b0b_t0)
def Lends_3f2b0b0b_t0 : SL := .cons Lends_3f2b0b0b0 .nil
def Lends_3f2b0b0 : S := (.ifs (.and (.cmp .eq (.b1 .len (.idx (.var 3) (.var 7))) (.cst (.int (1)))) (.cmp .eq (.call 9 (.cons (.var 0) (.cons (.cst (.int (2))) .nil))) (.cst (.int (0)))))
 Lends_3f2b0b0a_t0
 Lends_3f2b0b0b_t0)
def Lends_3f2b0b_t0 : SL := .cons Lends_3f2b0b0 .nil
def Lends_3f2b0 : S := (.ifs (.cmp .eq (.b1 .len (.idx (.var 3) (.var 7))) (.cst (.int (0))))
 Lends_3f2b0a_t0
 Lends_3f2b0b_t0)
def Lends_3f2b_t0 : SL := .cons Lends_3f2b0 .nil
def Lends_3f2 : S := (.ifs (.and (.cmp .eq (.b1 .len (.idx (.var 3) (.var 7))) (.cst (.int (0)))) (.or (.cmp .eq (.var 1) (.cst (.int (1)))) (.cmp .gt (.call 9 (.cons (.var 0) (.cons (.cst (.int (3))) .nil))) (.cst (.int (0))))))
 Lends_3f2a_t0
 Lends_3f2b_t0)
def Lends_3f_t2 : SL := .cons Lends_3f2 .nil
def Lends_3f_t1 : SL := .cons Lends_3f1 Lends_3f_t2
def Lends_3f_t0 : SL := .cons Lends_3f0 Lends_3f_t1
def Lends_3 : S := (.for_ (.nm 7) (.rng1 (.var 1))
 Lends_3f_t0)
def Lends_4 : S := (.ret (.var 6))
def Lends_t4 : SL := .cons Lends_4 .nil
def Lends_t3 : SL := .cons Lends_3 Lends_t4
def Lends_t2 : SL := .cons Lends_2 Lends_t3
def Lends_t1 : SL := .cons Lends_1 Lends_t2
def Lends_t0 : SL := .cons Lends_0 Lends_t1
def b14 : SL := Lends_t0
/-! _law_flow -/
def Lflow_0 : S := (.asg (.nm 3) (.bop .add (.cst (.int (2))) (.call 9 (.cons (.var 0) (.cons (.cst (.int (5))) .nil)))))
def Lflow_1 : S := (.asg (.nm 4) (.call 11 (.cons (.var 0) .nil)))
def Lflow_2 : S := (.asg (.nm 5) (.bop .add (.cst (.int (1))) (.call 9 (.cons (.var 0) (.cons (.var 1) .nil)))))
def Lflow_3 : S := (.asg (.nm 6) (.call 14 (.cons (.var 0) (.cons (.var 5) (.cons (.var 3) .nil)))))
def Lflow_4 : S := (.asg (.nm 7) (.lst .nil))
def Lflow_5f0 : S := (.asg (.nm 9) (.comp [10] (.nm 10) (.rng1 (.call 9 (.cons (.var 0) (.cons (.cst (.int (6))) .nil)))) (.cst (.bl true)) (.call 13 (.cons (.var 0) (.cons (.var 3) (.cons (.var 4) (.cons (.var 2) .nil)))))))
def Lflow_5f1 : S := (.expr (.mth .append (.var 7) (.cons (.tup (.cons (.bt .tuple (.var 9)) (.cons (.idx (.var 6) (.var 8)) .nil))) .nil)))
def Lflow_5f_t1 : SL := .cons Lflow_5f1 .nil
def Lflow_5f_t0 : SL := .cons Lflow_5f0 Lflow_5f_t1
def Lflow_5 : S := (.for_ (.nm 8) (.rng1 (.var 5))
 Lflow_5f_t0)
def Lflow_6 : S := (.ret (.tup (.cons (.idx (.var 4) (.cst (.int (0)))) (.cons (.idx (.var 4) (.cst (.int (1)))) (.cons (.var 3) (.cons (.bt .tuple (.var 7)) .nil))))))
def Lflow_t6 : SL := .cons Lflow_6 .nil
def Lflow_t5 : SL := .cons Lflow_5 Lflow_t6
def Lflow_t4 : SL := .cons Lflow_4 Lflow_t5
def Lflow_t3 : SL := .cons Lflow_3 Lflow_t4
def Lflow_t2 : SL := .cons Lflow_2 Lflow_t3
def Lflow_t1 : SL := .cons Lflow_1 Lflow_t2
def Lflow_t0 : SL := .cons Lflow_0 Lflow_t1
def b15 : SL := Lflow_t0
/-! _law_leads -/
def Lleads_0 : S := (.asg (.nm 1) (.lst .nil))
def Lleads_1f0 : S := (.asg (.nm 3) (.idx (.var 2) (.cst (.int (1)))))
def Lleads_1f1a0 : S := (.expr (.mth .append (.var 1) (.cons (.lst (.cons (.idx (.var 3) (.cst (.int (1)))) .nil)) .nil)))
def Lleads_1f1a_t0 : SL := .cons Lleads_1f1a0 .nil
def Lleads_1f1b0a0 : S := (.expr (.mth .append (.var 1) (.cons (.bop .add (.lst (.cons (.idx (.var 3) (.cst (.int (2)))) .nil)) (.bop .mul (.lst (.cons (.idx (.var 3) (.cst (.int (3)))) .nil)) (.b1 .int (.cmp .ne (.idx (.var 3) (.cst (.int (2)))) (.idx (.var 3) (.cst (.int (3)))))))) .nil)))
def Lleads_1f1b0a_t0 : SL := .cons Lleads_1f1b0a0 .nil
def Lleads_1f1b0b0 : S := (.expr (.mth .append (.var 1) (.cons (.lst .nil) .nil)))
def Lleads_1f1b0b_t0 : SL := .cons Lleads_1f1b0b0 .nil
def Lleads_1f1b0 : S := (.ifs (.cmp .eq (.idx (.var 3) (.cst (.int (0)))) (.cst (.str [98, 114, 97, 110, 99, 104])))
 Lleads_1f1b0a_t0
 Lleads_1f1b0b_t0)
def Lleads_1f1b_t0 : SL := .cons Lleads_1f1b0 .nil
def Lleads_1f1 : S := (.ifs (.cmp .eq (.idx (.var 3) (.cst (.int (0)))) (.cst (.str [106, 117, 109, 112])))
 Lleads_1f1a_t0
 Lleads_1f1b_t0)
def Lleads_1f_t1 : SL := .cons Lleads_1f1 .nil
def Lleads_1f_t0 : SL := .cons Lleads_1f0 Lleads_1f_t1
def Lleads_1 : S := (.for_ (.nm 2) (.seq (.var 0))
 Lleads_1f_t0)
def Lleads_2 : S := (.ret (.var 1))
def Lleads_t2 : SL := .cons Lleads_2 .nil
def Lleads_t1 : SL := .cons Lleads_1 Lleads_t2
def Lleads_t0 : SL := .cons Lleads_0 Lleads_t1
def b16 : SL := Lleads_t0
/-! _law_reached -/
def Lreached_0 : S := (.asg (.nm 3) (.dnew .nil))
def Lreached_1 : S := (.asg (.nm 4) (.comp [5] (.nm 5) (.seq (.var 1)) (.cmp .ne (.var 5) (.var 2)) (.var 5)))
def Lreached_2w0 : S := (.asg (.nm 5) (.mth .pop0 (.var 4) .nil))
def Lreached_2w1a0 : S := (.put (.var 3) (.var 5) (.cst (.bl true)))
def Lreached_2w1a1 : S := (.expr (.mth .extend (.var 4) (.cons (.comp [6] (.nm 6) (.seq (.idx (.var 0) (.var 5))) (.cmp .ne (.var 6) (.var 2)) (.var 6)) .nil)))
def Lreached_2w1a_t1 : SL := .cons Lreached_2w1a1 .nil
def Lreached_2w1a_t0 : SL := .cons Lreached_2w1a0 Lreached_2w1a_t1
def Lreached_2w1 : S := (.ifs (.cmp .notin (.var 5) (.var 3))
 Lreached_2w1a_t0
 .nil)
def Lreached_2w_t1 : SL := .cons Lreached_2w1 .nil
def Lreached_2w_t0 : SL := .cons Lreached_2w0 Lreached_2w_t1
def Lreached_2 : S := (.whl (.cmp .gt (.b1 .len (.var 4)) (.cst (.int (0))))
 Lreached_2w_t0)
def Lreached_3 : S := (.ret (.var 3))
def Lreached_t3 : SL := .cons Lreached_3 .nil
def Lreached_t2 : SL := .cons Lreached_2 Lreached_t3
def Lreached_t1 : SL := .cons Lreached_1 Lreached_t2
def Lreached_t0 : SL := .cons Lreached_0 Lreached_t1
def b17 : SL := Lreached_t0
/-! _law_ends_without -/
def Lends_without_0a0 : S := (.ret (.cst (.bl false)))
def Lends_without_0a_t0 : SL := .cons Lends_without_0a0 .nil
def Lends_without_0 : S := (.ifs (.cmp .eq (.var 3) (.var 2))
 Lends_without_0a_t0
 .nil)
def Lends_without_1 : S := (.ret (.cmp .gt (.b1 .len (.comp [4] (.nm 4) (.seq (.call 17 (.cons (.var 0) (.cons (.lst (.cons (.var 2) .nil)) (.cons (.var 3) .nil))))) (.cmp .in_ (.var 4) (.var 1)) (.var 4))) (.cst (.int (0)))))
def Lends_without_t1 : SL := .cons Lends_without_1 .nil
def Lends_without_t0 : SL := .cons Lends_without_0 Lends_without_t1
def b18 : SL := Lends_without_t0
def T : Tbl := ⟨[⟨1, 1, b0⟩, ⟨1, 3, b1⟩, ⟨1, 6, b2⟩, ⟨3, 14, b3⟩, ⟨1, 6, b4⟩, ⟨1, 9, b5⟩, ⟨1, 1, b6⟩, ⟨2, 7, b7⟩, ⟨1, 3, b8⟩, ⟨2, 3, b9⟩, ⟨1, 1, b10⟩, ⟨1, 4, b11⟩, ⟨2, 4, b12⟩, ⟨4, 13, b13⟩, ⟨3, 10, b14⟩, ⟨3, 11, b15⟩, ⟨1, 4, b16⟩, ⟨3, 7, b17⟩, ⟨4, 5, b18⟩], cls.map (·.2)⟩
theorem at0 : T.fns[0]? = some ⟨1, 1, Fends_of_t0⟩ := rfl
theorem at1 : T.fns[1]? = some ⟨1, 3, Fleads_to_t0⟩ := rfl
theorem at2 : T.fns[2]? = some ⟨1, 6, Fcomes_from_t0⟩ := rfl
theorem at3 : T.fns[3]? = some ⟨3, 14, Fstrict_sets_t0⟩ := rfl
theorem at4 : T.fns[4]? = some ⟨1, 6, Fimmediate_t0⟩ := rfl
theorem at5 : T.fns[5]? = some ⟨1, 9, Fpostdominator_sets_t0⟩ := rfl
theorem at6 : T.fns[6]? = some ⟨1, 1, Fpostdominators_t0⟩ := rfl
theorem at7 : T.fns[7]? = some ⟨2, 7, Fregion_t0⟩ := rfl
theorem at8 : T.fns[8]? = some ⟨1, 3, Lstream_t0⟩ := rfl
theorem at9 : T.fns[9]? = some ⟨2, 3, Ldraw_t0⟩ := rfl
theorem at10 : T.fns[10]? = some ⟨1, 1, Lword_t0⟩ := rfl
theorem at11 : T.fns[11]? = some ⟨1, 4, Lframe_t0⟩ := rfl
theorem at12 : T.fns[12]? = some ⟨2, 4, Lkinds_t0⟩ := rfl
theorem at13 : T.fns[13]? = some ⟨4, 13, Linstruction_t0⟩ := rfl
theorem at14 : T.fns[14]? = some ⟨3, 10, Lends_t0⟩ := rfl
theorem at15 : T.fns[15]? = some ⟨3, 11, Lflow_t0⟩ := rfl
theorem at16 : T.fns[16]? = some ⟨1, 4, Lleads_t0⟩ := rfl
theorem at17 : T.fns[17]? = some ⟨3, 7, Lreached_t0⟩ := rfl
theorem at18 : T.fns[18]? = some ⟨4, 5, Lends_without_t0⟩ := rfl
/-! law -/
def Flaw_0 : S := (.asg (.nm 1) (.call 8 (.cons (.var 0) .nil)))
def Flaw_1 : S := (.asg (.nm 2) (.call 15 (.cons (.var 1) (.cons (.idx (.lst (.cons (.cst (.int (9))) (.cons (.cst (.int (16))) .nil))) (.call 9 (.cons (.var 1) (.cons (.cst (.int (2))) .nil)))) (.cons (.cst (.int (0))) .nil)))))
def Flaw_2 : S := (.asg (.nm 3) (.call 16 (.cons (.idx (.var 2) (.cst (.int (3)))) .nil)))
def Flaw_3 : S := (.asg (.nm 4) (.b1 .len (.var 3)))
def Flaw_4 : S := (.asg (.nm 5) (.comp [13] (.nm 13) (.rng1 (.var 4)) (.cmp .eq (.idx (.idx (.idx (.var 2) (.cst (.int (3)))) (.var 13)) (.cst (.int (1)))) (.tup (.cons (.cst (.str [101, 120, 105, 116])) .nil))) (.var 13)))
def Flaw_5 : S := (.asg (.nm 6) (.lst .nil))
def Flaw_6f0 : S := (.asg (.nm 8) (.neg (.cst (.int (1)))))
def Flaw_6f1a0 : S := (.asg (.nm 9) (.comp [10] (.nm 10) (.rng1 (.var 4)) (.and (.cmp .ne (.var 10) (.var 7)) (.not (.call 18 (.cons (.var 3) (.cons (.var 5) (.cons (.var 7) (.cons (.var 10) .nil))))))) (.var 10)))
def Flaw_6f1a1f0a0 : S := (.asg (.nm 8) (.var 10))
def Flaw_6f1a1f0a_t0 : SL := .cons Flaw_6f1a1f0a0 .nil
def Flaw_6f1a1f0 : S := (.ifs (.cmp .eq (.b1 .len (.comp [14] (.nm 14) (.seq (.var 9)) (.and (.call 18 (.cons (.var 3) (.cons (.var 5) (.cons (.var 10) (.cons (.var 14) .nil))))) (.cmp .ne (.var 14) (.var 10))) (.var 14))) (.cst (.int (0))))
 Flaw_6f1a1f0a_t0
 .nil)
def Flaw_6f1a1f_t0 : SL := .cons Flaw_6f1a1f0 .nil
def Flaw_6f1a1 : S := (.for_ (.nm 10) (.seq (.var 9))
 Flaw_6f1a1f_t0)
def Flaw_6f1a_t1 : SL := .cons Flaw_6f1a1 .nil
def Flaw_6f1a_t0 : SL := .cons Flaw_6f1a0 Flaw_6f1a_t1
def Flaw_6f1 : S := (.ifs (.call 18 (.cons (.var 3) (.cons (.var 5) (.cons (.var 7) (.cons (.neg (.cst (.int (1)))) .nil)))))
 Flaw_6f1a_t0
 .nil)
def Flaw_6f2 : S := (.expr (.mth .append (.var 6) (.cons (.var 8) .nil)))
def Flaw_6f_t2 : SL := .cons Flaw_6f2 .nil
def Flaw_6f_t1 : SL := .cons Flaw_6f1 Flaw_6f_t2
def Flaw_6f_t0 : SL := .cons Flaw_6f0 Flaw_6f_t1
def Flaw_6 : S := (.for_ (.nm 7) (.rng1 (.var 4))
 Flaw_6f_t0)
def Flaw_7a0 : S := (.ret (.cst (.bl false)))
def Flaw_7a_t0 : SL := .cons Flaw_7a0 .nil
def Flaw_7 : S := (.ifs (.cmp .ne (.b1 .repr (.call 6 (.cons (.var 2) .nil))) (.b1 .repr (.var 6)))
 Flaw_7a_t0
 .nil)
def Flaw_8f0 : S := (.asg (.nm 11) (.call 7 (.cons (.var 2) (.cons (.var 7) .nil))))
def Flaw_8f1a0 : S := (.ret (.cst (.bl false)))
def Flaw_8f1a_t0 : SL := .cons Flaw_8f1a0 .nil
def Flaw_8f1 : S := (.ifs (.cmp .ne (.b1 .repr (.var 11)) (.b1 .repr (.srt (.call 17 (.cons (.var 3) (.cons (.idx (.var 3) (.var 7)) (.cons (.idx (.var 6) (.var 7)) .nil)))))))
 Flaw_8f1a_t0
 .nil)
def Flaw_8f2 : S := (.asg (.nm 12) (.call 7 (.cons (.var 2) (.cons (.var 7) .nil))))
def Flaw_8f3 : S := (.expr (.mth .append (.var 12) (.cons (.cst (.int (0))) .nil)))
def Flaw_8f4a0 : S := (.ret (.cst (.bl false)))
def Flaw_8f4a_t0 : SL := .cons Flaw_8f4a0 .nil
def Flaw_8f4 : S := (.ifs (.cmp .ne (.b1 .repr (.var 11)) (.b1 .repr (.call 7 (.cons (.var 2) (.cons (.var 7) .nil)))))
 Flaw_8f4a_t0
 .nil)
def Flaw_8f_t4 : SL := .cons Flaw_8f4 .nil
def Flaw_8f_t3 : SL := .cons Flaw_8f3 Flaw_8f_t4
def Flaw_8f_t2 : SL := .cons Flaw_8f2 Flaw_8f_t3
def Flaw_8f_t1 : SL := .cons Flaw_8f1 Flaw_8f_t2
def Flaw_8f_t0 : SL := .cons Flaw_8f0 Flaw_8f_t1
def Flaw_8 : S := (.for_ (.nm 7) (.rng1 (.var 4))
 Flaw_8f_t0)
def Flaw_9 : S := (.ret (.cst (.bl true)))
def Flaw_t9 : SL := .cons Flaw_9 .nil
def Flaw_t8 : SL := .cons Flaw_8 Flaw_t9
def Flaw_t7 : SL := .cons Flaw_7 Flaw_t8
def Flaw_t6 : SL := .cons Flaw_6 Flaw_t7
def Flaw_t5 : SL := .cons Flaw_5 Flaw_t6
def Flaw_t4 : SL := .cons Flaw_4 Flaw_t5
def Flaw_t3 : SL := .cons Flaw_3 Flaw_t4
def Flaw_t2 : SL := .cons Flaw_2 Flaw_t3
def Flaw_t1 : SL := .cons Flaw_1 Flaw_t2
def Flaw_t0 : SL := .cons Flaw_0 Flaw_t1
def blaw : SL := Flaw_t0
theorem g_ok : g.ok = true := by kernel_rfl
theorem T_eq : T = g.tab := by kernel_rfl
theorem law_c : g.compT flaw = some blaw := by kernel_rfl
end Kx
namespace Kx
open Dl PySem
local macro_rules
  | `(tactic| exists $es,*) => `(tactic| simp [ev, evl, tst, its, src, ex, Tg.putS, Tg.put, $[$es:term],*])
theorem draw_to {k : Nat} {z : SS} {r : G} {m : Int} {Q : W → G → Prop} {X : Nat → G → Prop} (hm : 0 < m) (hl : m.natAbs < 2 ^ 100) (H : ∀ v z', 0 ≤ v → v < m → Q (.int v) (hp z' r)) : (callN T (k + 1) 9 [.ref 1, .int m] (hp z r)).To Q X := by
  have hl := log_of hl
  have h97 : Nat.log2 97 < 9000 := by decide +kernel
  have hk2 : smallI 48271 = true := small_of (by decide)
  refine call_To at9 rfl ?_
  have draws : ∀ z1 : SS, (exs T (callN T k) Ldraw_t1 [some (.ref 1), some (.int m), none] (hp z1 r)).To (fin (hp z r) Q) (fun c _ g' => X c (gc (hp z r) .non g')) := by
    intro ⟨ns, p, a, mx, ip, ia, im0, im⟩
    have hk3 : smallI mx = true := small_of (by omega)
    by_cases c1 : p = 0
    · subst c1
      have := H ((mx * 48271 + 11) % 2147483647 / 97 % m) ⟨ns, 0, a, (mx * 48271 + 11) % 2147483647, ip, ia, by omega, by omega⟩ (Int.emod_nonneg _ (by omega)) (Int.emod_lt_of_pos _ hm)
      rw [← gc_hp0 (z := z) (w := .int _)] at this
      simpa [Ldraw_0a0, Ldraw_0a1, Ldraw_0a_t1, Ldraw_0a_t0, Ldraw_0, Ldraw_1a0, Ldraw_1a1, Ldraw_1a_t1, Ldraw_1a_t0, Ldraw_1, Ldraw_2, Ldraw_3, Ldraw_4, Ldraw_t4, Ldraw_t3, Ldraw_t2, Ldraw_t1, Ldraw_t0, ex, ev, evl, tst, R.of, R.bind, RS.of, Bop.run, Bop.runI, Cop.run, truthW, hp, atW, eqW, scal2, seqb, B1.run, ixW, hk2, hk3, hm, h97, Tg.putS, -gc_hp_self] using this
    · have := H (p % m) ⟨ns, p / m, a, mx, Int.ediv_nonneg ip (by omega), ia, im0, im⟩ (Int.emod_nonneg _ (by omega)) (Int.emod_lt_of_pos _ hm)
      rw [← gc_hp0 (z := z) (w := .int _)] at this
      simpa [Ldraw_0a0, Ldraw_0a1, Ldraw_0a_t1, Ldraw_0a_t0, Ldraw_0, Ldraw_1a0, Ldraw_1a1, Ldraw_1a_t1, Ldraw_1a_t0, Ldraw_1, Ldraw_2, Ldraw_3, Ldraw_4, Ldraw_t4, Ldraw_t3, Ldraw_t2, Ldraw_t1, Ldraw_t0, ex, ev, evl, tst, R.of, R.bind, RS.of, Bop.run, Bop.runI, Cop.run, truthW, hp, atW, eqW, scal2, seqb, B1.run, ixW, hl, hm, beq_eq_false_iff_ne.mpr c1, Tg.putS, -gc_hp_self] using this
  show RS.To (exs T (callN T k) (.cons Ldraw_0 Ldraw_t1) [some (.ref 1), some (.int m), none] (hp z r)) _ _
  rw [seq_To]
  suffices h : ∃ z1, ex T (callN T k) Ldraw_0 [some (.ref 1), some (.int m), none] (hp z r) = .go .nx [some (.ref 1), some (.int m), none] (hp z1 r) by
    obtain ⟨z1, e⟩ := h
    rw [e]
    exact draws z1
  obtain ⟨ns, p, a, mx, ip, ia, im0, im⟩ := z
  by_cases c1 : p = 0
  · subst c1
    by_cases c2 : a < ns.length
    · have c3 : a.toNat < ns.length := by omega
      refine ⟨⟨ns, if ns[a.toNat] < 0 then -ns[a.toNat] else ns[a.toNat], a + 1, mx, by split <;> omega, by omega, im0, im⟩, ?_⟩
      simp [Ldraw_0a0, Ldraw_0a1, Ldraw_0a_t1, Ldraw_0a_t0, Ldraw_0, Ldraw_1a0, Ldraw_1a1, Ldraw_1a_t1, Ldraw_1a_t0, Ldraw_1, Ldraw_2, Ldraw_3, Ldraw_4, Ldraw_t4, Ldraw_t3, Ldraw_t2, Ldraw_t1, Ldraw_t0, exs, ex, ev, evl, tst, RS.of, R.bind, R.of, RS.andThen, Bop.run, Bop.runI, Cop.run, truthW, hp, atW, eqW, scal2, seqb, B1.run, ixW, c2, ia, c3]
    · refine ⟨⟨ns, 0, a, mx, ip, ia, im0, im⟩, ?_⟩
      simp [Ldraw_0a0, Ldraw_0a1, Ldraw_0a_t1, Ldraw_0a_t0, Ldraw_0, Ldraw_1a0, Ldraw_1a1, Ldraw_1a_t1, Ldraw_1a_t0, Ldraw_1, Ldraw_2, Ldraw_3, Ldraw_4, Ldraw_t4, Ldraw_t3, Ldraw_t2, Ldraw_t1, Ldraw_t0, exs, ex, ev, evl, tst, RS.of, R.bind, R.of, RS.andThen, Bop.run, Bop.runI, Cop.run, truthW, hp, atW, eqW, scal2, seqb, B1.run, ixW, c2]
  · refine ⟨⟨ns, p, a, mx, ip, ia, im0, im⟩, ?_⟩
    simp [Ldraw_0a0, Ldraw_0a1, Ldraw_0a_t1, Ldraw_0a_t0, Ldraw_0, Ldraw_1a0, Ldraw_1a1, Ldraw_1a_t1, Ldraw_1a_t0, Ldraw_1, Ldraw_2, Ldraw_3, Ldraw_4, Ldraw_t4, Ldraw_t3, Ldraw_t2, Ldraw_t1, Ldraw_t0, exs, ex, ev, evl, tst, RS.of, R.bind, R.of, RS.andThen, Bop.run, Bop.runI, Cop.run, truthW, hp, atW, eqW, scal2, seqb, B1.run, ixW, beq_eq_false_iff_ne.mpr c1]
theorem stream_ok (k : Nat) (ns : List Int) : ∃ z, callN T (k + 1) 8 [.fl (ns.map W.int)] [] = .ok (.ref 1) (hp z []) := by
  have s1 : smallI 48271 = true := small_of (by decide)
  have key : (callN T (k + 1) 8 [.fl (ns.map W.int)] []).To (fun w g => w = .ref 1 ∧ ∃ z, g = hp z []) noX := by
    refine call_To at8 rfl ?_
    show RS.To (exs T (callN T k) (.cons Lstream_0 (.cons Lstream_1 (.cons Lstream_2 .nil))) [some (.fl (ns.map W.int)), none, none] []) _ _
    simp only [seq_To, Lstream_0, Lstream_1, ex, ev, src, RS.of, R.bind, Tg.putS, To_go, nxt_nx, List.set_cons_succ, List.set_cons_zero, List.getElem?_cons_zero, List.getElem?_cons_succ]
    refine forV_To (P := fun ws ρ g => (∀ w ∈ ws, ∃ i, w = .int i) ∧ ∃ v m, ρ = [some (.fl (ns.map W.int)), some (.int m), v] ∧ g = [] ∧ 0 ≤ m ∧ m < 2147483647) ⟨by simp, none, 17, rfl, rfl, by decide, by decide⟩ ?_ ?_
    · rintro w r ρ g ⟨hw, v, m, rfl, rfl, m0, m1⟩
      obtain ⟨i, rfl⟩ := hw w List.mem_cons_self
      have s2 : smallI m = true := small_of (by omega)
      refine ⟨_, rfl, ?_⟩
      simp [Lstream_1f_t0, Lstream_1f0, ex, ev, RS.of, R.bind, R.of, Bop.run, Bop.runI, Tg.putS, B1.run, s1, s2]
      exact ⟨fun w h => hw w (List.mem_cons_of_mem _ h), _, _, ⟨rfl, rfl⟩, by omega, by omega⟩
    · rintro ρ g ⟨_, v, m, rfl, rfl, m0, m1⟩
      have e : gc [] (.ref 1) [.lst (ns.map W.int), .lst [.ref 0, .int 0, .int 0, .int m]] = hp ⟨ns, 0, 0, m, by decide, by decide, m0, m1⟩ [] := gc_up rfl
      simp [Lstream_2, ex, ev, evl, RS.of, R.bind, R.of, lstOf, seqOf, BS.run, e]
      exact ⟨_, rfl⟩
  obtain ⟨w, g, e, rfl, z, rfl⟩ := key.ok
  exact ⟨z, e⟩

end Kx
namespace Kx
open Dl PySem
local macro_rules
  | `(tactic| exists $es,*) => `(tactic| simp [ev, evl, tst, its, src, ex, Tg.putS, Tg.put, $[$es:term],*])
theorem atW_mem {xs : List W} {v : Int} (h0 : 0 ≤ v) (h1 : v < xs.length) : ∃ x, atW xs v = some x ∧ x ∈ xs := by
  obtain ⟨n, rfl⟩ := Int.eq_ofNat_of_zero_le h0
  have hn : n < xs.length := by omega
  exact ⟨xs[n], by rw [atW_nat]; simp [hn], List.getElem_mem hn⟩
def IsWd (n : Int) : Prop := -2147483648 ≤ n ∧ n ≤ 2147483647
/-- no name of an object in it -/
def Pure (w : W) : Prop := ∀ n, below n w = true
/-- what flow graphs may name -/
structure GC where
  many : Int
  par : Int → Prop
  arr : Int → Prop
def GC.reg (c : GC) (n : Int) : Prop := 0 ≤ n ∧ n < c.many
def foldL : List (List Nat) := [[97, 100, 100], [109, 105, 110], [109, 97, 120], [97, 110, 100], [111, 114], [120, 111, 114]]
def unL : List (List Nat) := [[110, 101, 103], [110, 111, 116], [122, 101, 114, 111]]
def binL : List (List Nat) := [[97, 100, 100], [115, 117, 98], [109, 117, 108], [100, 105, 118], [114, 101, 109], [97, 110, 100], [111, 114], [120, 111, 114], [115, 104, 108], [115, 104, 114], [108, 116], [108, 101], [101, 113], [110, 101], [109, 105, 110], [109, 97, 120]]
def speL : List (List Nat) := [[116, 105, 100], [98, 105, 100], [100, 105, 109], [103, 114, 105, 100]]
inductive GIns (c : GC) : W → Prop
  | word (d n : Int) (hd : c.reg d) (hn : IsWd n) : GIns c (.tup [.str [119, 111, 114, 100], .int d, .int n])
  | param (d k : Int) (hd : c.reg d) (hk : c.par k) : GIns c (.tup [.str [112, 97, 114, 97, 109], .int d, .int k])
  | special (d : Int) (s : List Nat) (hd : c.reg d) (hs : s ∈ speL) : GIns c (.tup [.str [115, 112, 101, 99, 105, 97, 108], .int d, .str s])
  | copy (d r : Int) (hd : c.reg d) (hr : c.reg r) : GIns c (.tup [.str [99, 111, 112, 121], .int d, .int r])
  | unary (op : List Nat) (d r : Int) (ho : op ∈ unL) (hd : c.reg d) (hr : c.reg r) : GIns c (.tup [.str [117, 110, 97, 114, 121], .str op, .int d, .int r])
  | binary (op : List Nat) (d r s : Int) (ho : op ∈ binL) (hd : c.reg d) (hr : c.reg r) (hs : c.reg s) : GIns c (.tup [.str [98, 105, 110, 97, 114, 121], .str op, .int d, .int r, .int s])
  | load (d a r : Int) (hd : c.reg d) (ha : c.arr a) (hr : c.reg r) : GIns c (.tup [.str [108, 111, 97, 100], .int d, .int a, .int r])
  | store (a r s : Int) (ha : c.arr a) (hr : c.reg r) (hs : c.reg s) : GIns c (.tup [.str [115, 116, 111, 114, 101], .int a, .int r, .int s])
  | atomic (op : List Nat) (a r s : Int) (ho : op ∈ foldL) (ha : c.arr a) (hr : c.reg r) (hs : c.reg s) : GIns c (.tup [.str [97, 116, 111, 109, 105, 99], .str op, .int a, .int r, .int s])
  | barrier (n : Int) (h0 : 0 ≤ n) (h1 : n < 100) : GIns c (.tup [.str [98, 97, 114, 114, 105, 101, 114], .int n])
  | collect (op : List Nat) (d r n : Int) (ho : op ∈ foldL) (hd : c.reg d) (hr : c.reg r) (h0 : 0 ≤ n) (h1 : n < 100) : GIns c (.tup [.str [99, 111, 108, 108, 101, 99, 116], .str op, .int d, .int r, .int n])
theorem GIns.pure {c : GC} {w : W} (h : GIns c w) : Pure w := by cases h <;> intro n <;> simp
theorem word_to {k : Nat} {z : SS} {r : G} {Q : W → G → Prop} {X : Nat → G → Prop} (H : ∀ v z', IsWd v → Q (.int v) (hp z' r)) : (callN T (k + 2) 10 [.ref 1] (hp z r)).To Q X := by
  refine call_To at10 rfl ?_
  exists Lword_0a0, Lword_0a_t0, Lword_0, Lword_1, Lword_t1, Lword_t0, startE
  refine draw_to (by decide) (by decide) fun v z1 h0 h1 => ?_
  by_cases hv : v = 0
  · exists hv, hp_app
    refine draw_to (by decide) (by decide) fun u z2 h2 h3 => ?_
    have hu : u = 0 ∨ u = 1 ∨ u = 2 ∨ u = 3 ∨ u = 4 ∨ u = 5 := by omega
    rcases hu with rfl | rfl | rfl | rfl | rfl | rfl <;> exists hp_app <;> exact H _ _ ⟨by decide, by decide⟩
  · exists hv
    refine draw_to (by decide) (by decide) fun u z2 h2 h3 => ?_
    exists of_some
    exact H _ _ ⟨by omega, by omega⟩
/-- the frame: params, shared arrays -/
def psW (ps : List (List Nat × List Nat)) : W := .tup (ps.map fun p => .tup [.str p.1, .str p.2])
def shW (sh : List (List Nat × Int)) : W := .tup (sh.map fun p => .tup [.str p.1, .int p.2])
def sInt : List Nat := [105, 110, 116]
def sBuf : List Nat := [98, 117, 102, 102, 101, 114]
def frames : List (List (List Nat × List Nat)) := [[([110], sInt), ([109], sInt), ([97], sBuf), ([107], sInt), ([98], sBuf), ([99], sBuf)], [([110], sInt), ([97], sBuf), ([98], sBuf)], [([97], sBuf), ([109], sInt), ([110], sInt)], []]
def ShOk (sh : List (List Nat × Int)) : Prop := sh.length ≤ 3 ∧ sh.map (·.1) <+: [[115], [115, 50], [115, 51]] ∧ ∀ s ∈ sh, 1 ≤ s.2 ∧ s.2 ≤ 16
theorem psW_pure (ps : List (List Nat × List Nat)) : Pure (psW ps) := by
  intro n
  simp only [psW, below]
  induction ps with
  | nil => rfl
  | cons p r ih => simp [belows, below, ih]
theorem shW_pure (sh : List (List Nat × Int)) : Pure (shW sh) := by
  intro n
  simp only [shW, below]
  induction sh with
  | nil => rfl
  | cons p r ih => simp [belows, below, ih]
theorem sh_of {l : List W} (h : l.length ≤ 3) (hE : ∀ j (h2 : j < l.length), ∃ (n : List Nat) (s : Int), l[j] = .tup [.str n, .int s] ∧ ([[115], [115, 50], [115, 51]] : List (List Nat))[j]? = some n ∧ 1 ≤ s ∧ s ≤ 16) : ∃ sh : List (List Nat × Int), l = sh.map (fun p => .tup [.str p.1, .int p.2]) ∧ ShOk sh := by
  match l, h, hE with
  | [], _, _ => exact ⟨[], rfl, by decide, by decide, by simp⟩
  | [a], _, hE =>
    obtain ⟨n, s, e, e1, h1⟩ := hE 0 (by simp)
    simp at e e1
    exact ⟨[(n, s)], by simp [e], by simp, by simp [e1], by simpa using h1⟩
  | [a, b], _, hE =>
    obtain ⟨n, s, e, e1, h1⟩ := hE 0 (by simp)
    obtain ⟨n2, s2, f, f1, h2⟩ := hE 1 (by simp)
    simp at e e1 f f1
    exact ⟨[(n, s), (n2, s2)], by simp [e, f], by simp, by simp [e1, f1], by simpa using ⟨h1, h2⟩⟩
  | [a, b, c], _, hE =>
    obtain ⟨n, s, e, e1, h1⟩ := hE 0 (by simp)
    obtain ⟨n2, s2, f, f1, h2⟩ := hE 1 (by simp)
    obtain ⟨n3, s3, k, k1, h3⟩ := hE 2 (by simp)
    simp at e e1 f f1 k k1
    exact ⟨[(n, s), (n2, s2), (n3, s3)], by simp [e, f, k], by simp, by simp [e1, f1, k1], by simpa using ⟨h1, h2, h3⟩⟩
theorem frame_to {k : Nat} {z : SS} {r : G} {Q : W → G → Prop} {X : Nat → G → Prop} (H : ∀ ps sh z', ps ∈ frames → ShOk sh → Q (.tup [psW ps, shW sh]) (hp z' r)) : (callN T (k + 2) 11 [.ref 1] (hp z r)).To Q X := by
  refine call_To at11 rfl ?_
  exists Lframe_t0, Lframe_0, Lframe_t1, Lframe_1, startE
  generalize hL : ([_, _, Ob.lst _] : G) = L
  have h2 : L[2]? = some (.lst (frames.map psW)) := by rw [← hL]; rfl
  exists Lframe_t2, Lframe_2, startE, its
  refine draw_to (by decide) (by decide) fun v z1 h0 h1 => ?_
  have hlim := lim_ok (n := v) (by omega) (by omega)
  have hl2 := lim_le (n := v.toNat) (by omega)
  exists hlim, hl2, wipeE
  refine compP (E := fun j w x => ∃ (n : List Nat) (s : Int), x = .tup [.str n, .int s] ∧ ([[115], [115, 50], [115, 51]] : List (List Nat))[j]? = some n ∧ 1 ≤ s ∧ s ≤ 16) (by intros; simp [tst, ev]) ?_ ?_
  · intro j hj z y
    have hj3 : j = 0 ∨ j = 1 ∨ j = 2 := by simp at hj; omega
    rcases hj3 with rfl | rfl | rfl <;>
    · exists hp_app
      refine draw_to (by decide) (by decide) fun v z1 h0 h1 => ?_
      have hv : v = 0 ∨ v = 1 ∨ v = 2 ∨ v = 3 ∨ v = 4 := by omega
      rcases hv with rfl | rfl | rfl | rfl | rfl <;> exists hp_app <;> exact ⟨⟨_, _, ⟨rfl, rfl⟩, rfl, by decide, by decide⟩, _, _, rfl⟩
  · intro l z' y hl hE
    exists Lframe_t3, Lframe_3
    refine draw_to (by decide) (by decide) fun v z1 h0 h1 => ?_
    obtain ⟨x, e, hx⟩ := atW_mem (xs := frames.map psW) (v := v / 3) (by omega) (by simp [frames]; omega)
    obtain ⟨ps, hps, rfl⟩ := List.mem_map.mp hx
    have h3 : (L ++ y)[2]? = some (.lst (frames.map psW)) := by rw [← hL]; rfl
    obtain ⟨sh, rfl, hs⟩ := sh_of (l := l) (by simp at hl; omega) (fun j h2 => hE j (by rw [← hl]; exact h2) h2)
    have := H ps sh z1 hps hs
    have p1 := psW_pure ps
    have p2 := shW_pure sh
    unfold shW at p2 this
    exists h3, e, p1 _, p2 _
    exact this
/-- the places of a kind -/
def kindL (ps : List (List Nat × List Nat)) (sh : List (List Nat × Int)) (t : List Nat) : List Int :=
  ((List.range ps.length).filter fun k => decide ((ps[k]?.map (·.2)) = some t)).map (fun (k : Nat) => (k : Int)) ++ if t = sBuf then (List.range sh.length).map fun (k : Nat) => 6 + (k : Int) else []
theorem frames_len : ∀ ps ∈ frames, ps.length ≤ 6 := by decide
theorem kinds_to {k : Nat} {z : SS} {r : G} {ps : List (List Nat × List Nat)} {sh : List (List Nat × Int)} {t : List Nat} {Q : W → G → Prop} {X : Nat → G → Prop} (hps : ps ∈ frames) (hsh : ShOk sh) (H : ∀ p r', Ext r r' → r.length + 2 ≤ p → At r' p (.lst ((kindL ps sh t).map W.int)) → Q (.ref p) (hp z r')) : (callN T (k + 1) 12 [.tup [psW ps, shW sh], .str t] (hp z r)).To Q X := by
  have hl : ps.length ≤ 6 := frames_len ps hps
  refine call_To at12 rfl ?_
  have l1 := lim_ok (n := ps.length) (by omega) (by omega)
  have l2 := lim_le (n := ps.length) (by omega)
  have l3 := lim_ok (n := sh.length) (by omega) (by have := hsh.1; omega)
  have l4 := lim_le (n := sh.length) (by have := hsh.1; omega)
  unfold psW shW
  have hf : ∀ (g : G) (v3 : Option W), compV (.nm 3) (tst T (callN T k) (.cmp .eq (.idx (.idx (.idx (.var 0) (.cst (.int (0)))) (.var 3)) (.cst (.int (1)))) (.var 1))) (ev T (callN T k) (.var 3)) [some (.tup [.tup (ps.map fun p => .tup [.str p.1, .str p.2]), .tup (sh.map fun p => .tup [.str p.1, .int p.2])]), some (.str t), v3, none] ((List.range ps.length).map fun (k : Nat) => W.int k) g = .ok (((List.range ps.length).filter fun k => decide ((ps[k]?.map (·.2)) = some t)).map fun (k : Nat) => W.int k) g := by
    intro g v3
    refine compR_filter fun j hj => ?_
    exists atW_nat, hj, R.of
  have hm : ∀ (g : G) (v3 : Option W), compV (.nm 3) (tst T (callN T k) (.cst (.bl true))) (ev T (callN T k) (.bop .add (.cst (.int (6))) (.var 3))) [some (.tup [.tup (ps.map fun p => .tup [.str p.1, .str p.2]), .tup (sh.map fun p => .tup [.str p.1, .int p.2])]), some (.str t), v3, none] ((List.range sh.length).map fun (k : Nat) => W.int k) g = .ok ((List.range sh.length).map fun (k : Nat) => W.int (6 + k)) g := by
    intro g v3
    refine compR_map fun j hj => ?_
    exists R.of
  have h6 : (((List.range ps.length).filter fun k => decide ((ps[k]?.map (·.2)) = some t)).length + sh.length ≤ lim) := by
    refine lim_le ?_
    have := List.length_filter_le (fun k => decide ((ps[k]?.map (·.2)) = some t)) (List.range ps.length)
    simp at this
    have := hsh.1
    omega
  by_cases ht : t = [98, 117, 102, 102, 101, 114]
  · subst ht
    have h8 := H (r.length + 4) (r ++ [.lst (((List.range ps.length).filter fun k => decide ((ps[k]?.map (·.2)) = some [98, 117, 102, 102, 101, 114])).map fun (k : Nat) => W.int k), .lst ((List.range sh.length).map fun (k : Nat) => W.int (6 + k)), .lst ((((List.range ps.length).filter fun k => decide ((ps[k]?.map (·.2)) = some [98, 117, 102, 102, 101, 114])).map fun (k : Nat) => W.int k) ++ ((List.range sh.length).map fun (k : Nat) => W.int (6 + k)))]) .app (by omega) ⟨by omega, by simp [kindL, sBuf]; rfl⟩
    exists Lkinds_0, Lkinds_1a0, Lkinds_1a_t0, Lkinds_1, Lkinds_2, Lkinds_t2, Lkinds_t1, Lkinds_t0, l1, l2, l3, l4, wipeE, startE, hf, hm, h6
    simpa using h8
  · have h8 := H (r.length + 2) (r ++ [.lst (((List.range ps.length).filter fun k => decide ((ps[k]?.map (·.2)) = some t)).map fun (k : Nat) => W.int k)]) .app (by omega) ⟨by omega, by simp [kindL, sBuf, ht]⟩
    exists Lkinds_0, Lkinds_1a0, Lkinds_1a_t0, Lkinds_1, Lkinds_2, Lkinds_t2, Lkinds_t1, Lkinds_t0, l1, l2, l3, l4, wipeE, startE, hf, hm, h6, ht
    simpa using h8
def gcf (many : Int) (ps : List (List Nat × List Nat)) (sh : List (List Nat × Int)) : GC := ⟨many, (· ∈ kindL ps sh sInt), (· ∈ kindL ps sh sBuf)⟩
theorem kindL_len {ps : List (List Nat × List Nat)} {sh : List (List Nat × Int)} (h : ps ∈ frames) (k : ShOk sh) (t : List Nat) : (kindL ps sh t).length ≤ 9 := by
  have h1 := frames_len ps h
  have h2 := k.1
  have h3 := List.length_filter_le (fun k => decide ((ps[k]?.map (·.2)) = some t)) (List.range ps.length)
  simp at h3
  unfold kindL
  split <;> simp <;> omega
/-- where an instruction is drawn: behind the first draws -/
structure ICtx (c : GC) (r rc : G) (p2 p3 : Nat) (I B : List Int) : Prop where
  ext : Ext r rc
  a2 : At rc p2 (.lst (I.map W.int))
  a3 : At rc p3 (.lst (B.map W.int))
  nI : I.length ≤ 9
  nB : B.length ≤ 9
  kI : ∀ v ∈ I, c.par v
  kB : ∀ v ∈ B, c.arr v
section
variable {c : GC} {k : Nat} {z z1 : SS} {r rc : G} {p2 p3 : Nat} {I B : List Int} {many wt pick d rr s : Int} {fr : W} {fop : List Nat} {Q : W → G → Prop} {X : Nat → Dl.Env → G → Prop}
theorem ICtx.gx (h : ICtx c r rc p2 p3 I B) {z z' : SS} {w : W} (hb : below (r.length + 2) w = true) : gc (hp z r) w (hp z' rc) = hp z' r := gc_ext h.ext hb
theorem ICtx.gx' (h : ICtx c r rc p2 p3 I B) {z z' : SS} {w : W} {x : G} (hb : below (r.length + 2) w = true) : gc (hp z r) w (hp z' (rc ++ x)) = hp z' r := gc_ext' h.ext hb
theorem ICtx.u2 (h : ICtx c r rc p2 p3 I B) {z : SS} : (hp z rc)[p2]? = some (.lst (I.map W.int)) := h.a2.get
theorem ICtx.u3 (h : ICtx c r rc p2 p3 I B) {z : SS} : (hp z rc)[p3]? = some (.lst (B.map W.int)) := h.a3.get
theorem ICtx.u2' (h : ICtx c r rc p2 p3 I B) {z : SS} {x : G} : (hp z (rc ++ x))[p2]? = some (.lst (I.map W.int)) := h.a2.get'
theorem ICtx.u3' (h : ICtx c r rc p2 p3 I B) {z : SS} {x : G} : (hp z (rc ++ x))[p3]? = some (.lst (B.map W.int)) := h.a3.get'
variable (h : ICtx c r rc p2 p3 I B) (hd : c.reg d) (hr : c.reg rr) (hs : c.reg s) (hop : fop ∈ foldL) (H : ∀ w z', GIns c w → Q w (hp z' r))
include h hd H
theorem instr_w {K : Dl.Env → G → Prop} : (exs T (callN T (k + 2)) Linstruction_7a_t0 [some (.ref 1), some (.int many), some fr, some (.int wt), some (.int pick), some (.int d), some (.int rr), some (.int s), some (.str fop), some (.ref p2), some (.ref p3), none, none] (hp z1 rc)).To (nxt K (fin (hp z r) Q)) X := by
  exists Linstruction_7a_t0, Linstruction_7a0
  refine word_to fun n z2 hn => ?_
  exists h.gx
  exact H _ _ (.word d n hd hn)
theorem instr_a (pk : pick ≤ 3) : (exs T (callN T (k + 2)) Linstruction_t7 [some (.ref 1), some (.int many), some fr, some (.int wt), some (.int pick), some (.int d), some (.int rr), some (.int s), some (.str fop), some (.ref p2), some (.ref p3), none, none] (hp z1 rc)).To (fin (hp z r) Q) (fun c _ g' => X c [] (gc (hp z r) .non g')) := by
  rcases Int.lt_or_eq_of_le pk with pk | rfl
  · exists Linstruction_t7, Linstruction_7, h.u2, h.u3, pk
    exact instr_w h hd H
  · by_cases hI : I = []
    · exists Linstruction_t7, Linstruction_7, h.u2, h.u3, hI
      exact instr_w h hd H
    · exists Linstruction_t7, Linstruction_7, h.u2, h.u3, hI, Linstruction_t8, Linstruction_8, Linstruction_8a_t0, Linstruction_8a0
      have hl : 0 < I.length := List.length_pos_iff.mpr hI
      refine draw_to (by omega) (by have := h.nI; omega) fun v z1 v0 v1 => ?_
      obtain ⟨x, e, hx⟩ := atW_mem (xs := I.map W.int) (v := v) v0 (by simpa using v1)
      obtain ⟨q, hq, rfl⟩ := List.mem_map.mp hx
      exists h.u2, e, h.gx
      exact H _ _ (.param d q hd (h.kI _ hq))
theorem instr_b : (exs T (callN T (k + 2)) Linstruction_t7 [some (.ref 1), some (.int many), some fr, some (.int wt), some (.int 4), some (.int d), some (.int rr), some (.int s), some (.str fop), some (.ref p2), some (.ref p3), none, none] (hp z1 rc)).To (fin (hp z r) Q) (fun c _ g' => X c [] (gc (hp z r) .non g')) := by
  exists Linstruction_t7, Linstruction_7, Linstruction_t8, Linstruction_8, Linstruction_t9, Linstruction_9, Linstruction_9a_t0, Linstruction_9a0
  refine draw_to (by omega) (by omega) fun v z1 v0 v1 => ?_
  obtain ⟨x, e, hx⟩ := atW_mem (xs := speL.map W.str) (v := v) v0 v1
  obtain ⟨q, hq, rfl⟩ := List.mem_map.mp hx
  simp only [speL, List.map_cons, List.map_nil] at e
  exists e, h.gx'
  exact H _ _ (.special d q hd hq)
theorem instr_j : (exs T (callN T (k + 2)) Linstruction_t7 [some (.ref 1), some (.int many), some fr, some (.int wt), some (.int 14), some (.int d), some (.int rr), some (.int s), some (.str fop), some (.ref p2), some (.ref p3), none, none] (hp z1 rc)).To (fin (hp z r) Q) (fun c _ g' => X c [] (gc (hp z r) .non g')) := by
  exists Linstruction_t7, Linstruction_7, Linstruction_t8, Linstruction_8, Linstruction_t9, Linstruction_9, Linstruction_t10, Linstruction_10, Linstruction_t11, Linstruction_11, Linstruction_t12, Linstruction_12, Linstruction_t13, Linstruction_13, Linstruction_13a_t0, Linstruction_13a0
  refine draw_to (by omega) (by omega) fun v z1 v0 v1 => ?_
  exists h.gx
  exact H _ _ (.barrier v v0 (by omega))
include hr
theorem instr_c : (exs T (callN T (k + 2)) Linstruction_t7 [some (.ref 1), some (.int many), some fr, some (.int wt), some (.int 5), some (.int d), some (.int rr), some (.int s), some (.str fop), some (.ref p2), some (.ref p3), none, none] (hp z1 rc)).To (fin (hp z r) Q) (fun c _ g' => X c [] (gc (hp z r) .non g')) := by
  exists Linstruction_t7, Linstruction_7, Linstruction_t8, Linstruction_8, Linstruction_t9, Linstruction_9, Linstruction_t10, Linstruction_10, Linstruction_10a_t0, Linstruction_10a0, h.gx
  exact H _ _ (.copy d rr hd hr)
theorem instr_d : (exs T (callN T (k + 2)) Linstruction_t7 [some (.ref 1), some (.int many), some fr, some (.int wt), some (.int 6), some (.int d), some (.int rr), some (.int s), some (.str fop), some (.ref p2), some (.ref p3), none, none] (hp z1 rc)).To (fin (hp z r) Q) (fun c _ g' => X c [] (gc (hp z r) .non g')) := by
  exists Linstruction_t7, Linstruction_7, Linstruction_t8, Linstruction_8, Linstruction_t9, Linstruction_9, Linstruction_t10, Linstruction_10, Linstruction_t11, Linstruction_11, Linstruction_11a_t0, Linstruction_11a0
  refine draw_to (by omega) (by omega) fun v z1 v0 v1 => ?_
  obtain ⟨x, e, hx⟩ := atW_mem (xs := unL.map W.str) (v := v) v0 v1
  obtain ⟨q, hq, rfl⟩ := List.mem_map.mp hx
  simp only [unL, List.map_cons, List.map_nil] at e
  exists e, h.gx'
  exact H _ _ (.unary q d rr hq hd hr)
include hs
theorem instr_e (p0 : 7 ≤ pick) (p1 : pick < 10) : (exs T (callN T (k + 2)) Linstruction_t7 [some (.ref 1), some (.int many), some fr, some (.int wt), some (.int pick), some (.int d), some (.int rr), some (.int s), some (.str fop), some (.ref p2), some (.ref p3), none, none] (hp z1 rc)).To (fin (hp z r) Q) (fun c _ g' => X c [] (gc (hp z r) .non g')) := by
  have q1 : ¬ pick < 3 := by omega
  have q2 : ¬ pick = 3 := by omega
  have q3 : ¬ 9 < pick := by omega
  have q4 : ¬ pick = 4 := by omega
  have q5 : ¬ pick = 5 := by omega
  have q6 : ¬ pick = 6 := by omega
  exists Linstruction_t7, Linstruction_7, Linstruction_t8, Linstruction_8, Linstruction_t9, Linstruction_9, Linstruction_t10, Linstruction_10, Linstruction_t11, Linstruction_11, Linstruction_t12, Linstruction_12, Linstruction_12a_t0, Linstruction_12a_t1, Linstruction_12a0, Linstruction_12a1, p1, q1, q2, q3, q4, q5, q6
  refine draw_to (by omega) (by omega) fun v z1 v0 v1 => ?_
  obtain ⟨x, e, hx⟩ := atW_mem (xs := binL.map W.str) (v := v) v0 v1
  obtain ⟨q, hq, rfl⟩ := List.mem_map.mp hx
  simp only [binL, List.map_cons, List.map_nil] at e
  exists e, h.gx'
  exact H _ _ (.binary q d rr s hq hd hr hs)
include hop
theorem instr_l (p0 : 10 ≤ pick) (p1 : pick < 14) : (exs T (callN T (k + 2)) Linstruction_t7 [some (.ref 1), some (.int many), some fr, some (.int wt), some (.int pick), some (.int d), some (.int rr), some (.int s), some (.str fop), some (.ref p2), some (.ref p3), none, none] (hp z1 rc)).To (fin (hp z r) Q) (fun c _ g' => X c [] (gc (hp z r) .non g')) := by
  have q1 : ¬ pick < 3 := by omega
  have q2 : ¬ pick = 3 := by omega
  have q3 : 9 < pick := by omega
  by_cases hB : B = []
  · exists Linstruction_t7, Linstruction_7, h.u3, hB, q1, q2, q3, p1
    exact instr_w h hd H
  · have q4 : ¬ pick = 4 := by omega
    have q5 : ¬ pick = 5 := by omega
    have q6 : ¬ pick = 6 := by omega
    have q7 : ¬ pick < 10 := by omega
    have q8 : ¬ pick = 14 := by omega
    have q9 : ¬ pick = 15 := by omega
    have hl : 0 < B.length := List.length_pos_iff.mpr hB
    exists Linstruction_t7, Linstruction_7, Linstruction_t8, Linstruction_8, Linstruction_t9, Linstruction_9, Linstruction_t10, Linstruction_10, Linstruction_t11, Linstruction_11, Linstruction_t12, Linstruction_12, Linstruction_t13, Linstruction_13, Linstruction_t14, Linstruction_14, Linstruction_t15, Linstruction_15, h.u3, hB, p1, q1, q2, q3, q4, q5, q6, q7, q8, q9
    refine draw_to (by omega) (by have := h.nB; omega) fun v z1 v0 v1 => ?_
    obtain ⟨x, e, hx⟩ := atW_mem (xs := B.map W.int) (v := v) v0 (by simpa using v1)
    obtain ⟨q, hq, rfl⟩ := List.mem_map.mp hx
    have pk : pick = 10 ∨ pick = 11 ∨ pick = 12 ∨ pick = 13 := by omega
    exists h.u3, e, Linstruction_t16, Linstruction_16
    rcases pk with rfl | rfl | rfl | rfl
    · exists h.gx'
      exact H _ _ (.load d q rr hd (h.kB _ hq) hr)
    · exists h.gx'
      exact H _ _ (.store q rr s (h.kB _ hq) hr hs)
    · exists h.gx'
      exact H _ _ (.store q rr s (h.kB _ hq) hr hs)
    · exists h.gx'
      exact H _ _ (.atomic fop q rr s hop (h.kB _ hq) hr hs)
omit hs in
theorem instr_o : (exs T (callN T (k + 2)) Linstruction_t7 [some (.ref 1), some (.int many), some fr, some (.int wt), some (.int 15), some (.int d), some (.int rr), some (.int s), some (.str fop), some (.ref p2), some (.ref p3), none, none] (hp z1 rc)).To (fin (hp z r) Q) (fun c _ g' => X c [] (gc (hp z r) .non g')) := by
  exists Linstruction_t7, Linstruction_7, Linstruction_t8, Linstruction_8, Linstruction_t9, Linstruction_9, Linstruction_t10, Linstruction_10, Linstruction_t11, Linstruction_11, Linstruction_t12, Linstruction_12, Linstruction_t13, Linstruction_13, Linstruction_t14, Linstruction_14, Linstruction_14a_t0, Linstruction_14a0
  refine draw_to (by omega) (by omega) fun v z1 v0 v1 => ?_
  exists h.gx
  exact H _ _ (.collect fop d rr v hop hd hr v0 (by omega))
end
theorem instr_to {k : Nat} {z : SS} {r : G} {many wt : Int} {ps : List (List Nat × List Nat)} {sh : List (List Nat × Int)} {Q : W → G → Prop} {X : Nat → G → Prop} (hm : 0 < many) (hm2 : many ≤ 1000) (hw : wt = 0 ∨ wt = 1) (hps : ps ∈ frames) (hsh : ShOk sh) (H : ∀ w z', GIns (gcf many ps sh) w → Q w (hp z' r)) : (callN T (k + 3) 13 [.ref 1, .int many, .tup [psW ps, shW sh], .int wt] (hp z r)).To Q X := by
  refine call_To at13 rfl ?_
  have hsm : smallI wt = true := small_of (by omega)
  exists Linstruction_t0, Linstruction_0, startE, hsm
  refine draw_to (by omega) (by omega) fun pick z1 h0 h1 => ?_
  exists Linstruction_t1, Linstruction_1
  refine draw_to (by omega) (by omega) fun d z1 d0 d1 => ?_
  exists Linstruction_t2, Linstruction_2
  refine draw_to (by omega) (by omega) fun rr z1 r0 r1 => ?_
  exists Linstruction_t3, Linstruction_3
  refine draw_to (by omega) (by omega) fun s z1 s0 s1 => ?_
  exists Linstruction_t4, Linstruction_4
  generalize er : r ++ [_] = ra
  have ea : Ext r ra := er ▸ .app
  have a0 : At ra (r.length + 2) (.lst (foldL.map W.str)) := er ▸ At.new
  refine draw_to (by omega) (by omega) fun v z1 h2 h3 => ?_
  obtain ⟨x, e, hx⟩ := atW_mem (xs := foldL.map W.str) (v := v) h2 h3
  obtain ⟨fop, hop, rfl⟩ := List.mem_map.mp hx
  exists show ra[r.length]? = _ from a0.2, e, Linstruction_t5, Linstruction_5
  clear a0 er hx e
  refine kinds_to hps hsh fun p2 rb eb l2 a2 => ?_
  exists Linstruction_t6, Linstruction_6
  refine kinds_to hps hsh fun p3 rc ec l3 a3 => ?_
  have a2 := a2.ext ec
  have eb := (ea.trans eb).trans ec
  have ctx : ICtx (gcf many ps sh) r rc p2 p3 _ _ := ⟨eb, a2, a3, kindL_len hps hsh _, kindL_len hps hsh _, fun v h => h, fun v h => h⟩
  have hd : (gcf many ps sh).reg d := ⟨d0, d1⟩
  have hr : (gcf many ps sh).reg rr := ⟨r0, r1⟩
  have hs : (gcf many ps sh).reg s := ⟨s0, s1⟩
  have pk : pick ≤ 3 ∨ pick = 4 ∨ pick = 5 ∨ pick = 6 ∨ (7 ≤ pick ∧ pick < 10) ∨ (10 ≤ pick ∧ pick < 14) ∨ pick = 14 ∨ pick = 15 := by omega
  rcases pk with pk | rfl | rfl | rfl | pk | pk | rfl | rfl
  · exact instr_a ctx hd H pk (X := fun c _ g => X c g)
  · exact instr_b ctx hd H (X := fun c _ g => X c g)
  · exact instr_c ctx hd hr H (X := fun c _ g => X c g)
  · exact instr_d ctx hd hr H (X := fun c _ g => X c g)
  · exact instr_e ctx hd hr hs H pk.1 pk.2 (X := fun c _ g => X c g)
  · exact instr_l ctx hd hr hs hop H pk.1 pk.2 (X := fun c _ g => X c g)
  · exact instr_j ctx hd H (X := fun c _ g => X c g)
  · exact instr_o ctx hd hr hop H (X := fun c _ g => X c g)

end Kx
namespace Kx
open Dl PySem
local macro_rules
  | `(tactic| exists $es,*) => `(tactic| simp [ev, evl, tst, its, src, ex, Tg.putS, Tg.put, $[$es:term],*])
/-! ### rows of lists -/
structure Rows (g : G) (b p : Nat) (ls : List (List Int)) : Prop where
  top : At g p (.lst ((List.range ls.length).map fun k => .ref (b + k)))
  row : ∀ k l, ls[k]? = some l → At g (b + k) (.lst (l.map W.int))
  le : b + ls.length ≤ p
  b2 : 2 ≤ b
theorem Rows.ext {g g' : G} {b p : Nat} {ls : List (List Int)} (h : Rows g b p ls) (e : Ext g g') : Rows g' b p ls := ⟨h.top.ext e, fun k l hk => (h.row k l hk).ext e, h.le, h.b2⟩
theorem Rows.set {g : G} {b p k : Nat} {ls : List (List Int)} {l l' : List Int} (h : Rows g b p ls) (hk : ls[k]? = some l) : Rows (g.set (b + k - 2) (.lst (l'.map W.int))) b p (ls.set k l') := by
  have hlt : k < ls.length := (List.getElem?_eq_some_iff.mp hk).1
  have hb := h.b2
  have hp := h.le
  refine ⟨?_, ?_, by simpa using h.le, h.b2⟩
  · rw [List.length_set]
    exact h.top.set_ne (by omega) (by omega)
  · intro j m hj
    by_cases e : j = k
    · subst e
      rw [List.getElem?_set_self hlt] at hj
      cases hj
      exact (h.row j l hk).set_self
    · rw [List.getElem?_set_ne (by omega)] at hj
      exact (h.row j m hj).set_ne (by omega) (by omega)
theorem Rows.other {g : G} {b p q : Nat} {ls : List (List Int)} {o : Ob} (h : Rows g b p ls) (hq : p < q) : Rows (g.set (q - 2) o) b p ls := by
  have hb := h.b2
  have hp := h.le
  refine ⟨h.top.set_ne (by omega) (by omega), fun k l hk => ?_, h.le, h.b2⟩
  have := (List.getElem?_eq_some_iff.mp hk).1
  exact (h.row k l hk).set_ne (by omega) (by omega)
theorem Rows.under {g : G} {b p q : Nat} {ls : List (List Int)} {o : Ob} (h : Rows g b p ls) (hq : q < b) (h2 : 2 ≤ q) : Rows (g.set (q - 2) o) b p ls := by
  have hp := h.le
  exact ⟨h.top.set_ne (by omega) h2, fun k l hk => (h.row k l hk).set_ne (by omega) h2, h.le, h.b2⟩
/-! ### ends -/
inductive End where
  | exit | jump (t : Int) | branch (r a b : Int)
def End.w : End → W
  | .exit => .tup [.str [101, 120, 105, 116]]
  | .jump t => .tup [.str [106, 117, 109, 112], .int t]
  | .branch r a b => .tup [.str [98, 114, 97, 110, 99, 104], .int r, .int a, .int b]
def End.tg : End → List Int
  | .exit => []
  | .jump t => [t]
  | .branch _ a b => [a, b]
def End.rg : End → List Int
  | .branch r _ _ => [r]
  | _ => []
theorem End.pure (e : End) : Pure e.w := by cases e <;> intro n <;> simp [End.w]
/-- the tree of the nodes so far -/
structure Tree (m : Int) (ls : List (List Int)) : Prop where
  up : ∀ (k : Nat) l, ls[k]? = some l → ∀ v ∈ l, (k : Int) < v ∧ v < m
  all : ∀ v : Int, 1 ≤ v → v < m → ∃ (k : Nat) (l : List Int), ls[k]? = some l ∧ v ∈ l
  two : ∀ l ∈ ls, l.length ≤ 2
theorem Tree.start (n : Nat) : Tree 1 (List.replicate n []) := by
  refine ⟨fun k l h => ?_, fun v h0 h1 => by omega, fun l h => ?_⟩
  · have := List.mem_of_getElem? h
    rw [List.eq_of_mem_replicate this]
    simp
  · rw [List.eq_of_mem_replicate h]; simp
theorem Tree.step {m : Int} {ls : List (List Int)} {k : Nat} {l : List Int} (h : Tree m ls) (hk : ls[k]? = some l) (h1 : (k : Int) < m) (h2 : l.length < 2) : Tree (m + 1) (ls.set k (l ++ [m])) := by
  have hlt : k < ls.length := (List.getElem?_eq_some_iff.mp hk).1
  refine ⟨fun j q hj v hv => ?_, fun v h0 hv => ?_, fun q hq => ?_⟩
  · by_cases e : j = k
    · subst e
      rw [List.getElem?_set_self hlt] at hj
      cases hj
      rcases List.mem_append.mp hv with hv | hv
      · have := h.up j l hk v hv; omega
      · have : v = m := by simpa using hv
        omega
    · rw [List.getElem?_set_ne (by omega)] at hj
      have := h.up j q hj v hv; omega
  · by_cases e : v = m
    · exact ⟨k, l ++ [m], List.getElem?_set_self hlt, by simp [e]⟩
    · obtain ⟨j, q, hj, hq⟩ := h.all v h0 (by omega)
      by_cases e2 : j = k
      · subst e2
        rw [hk] at hj
        cases hj
        exact ⟨j, l ++ [m], List.getElem?_set_self hlt, List.mem_append_left _ hq⟩
      · exact ⟨j, q, by rw [List.getElem?_set_ne (by omega)]; exact hj, hq⟩
  · rcases List.mem_or_eq_of_mem_set hq with hq | hq
    · exact h.two q hq
    · rw [hq]; simp; omega
structure EndOk (many count : Int) (l : List Int) (e : End) : Prop where
  tg : ∀ t ∈ e.tg, 1 ≤ t ∧ t < count
  rg : ∀ t ∈ e.rg, 0 ≤ t ∧ t < many
  sub : ∀ v ∈ l, v ∈ e.tg
structure Ends (many count : Int) (es : List End) : Prop where
  tg : ∀ e ∈ es, ∀ t ∈ e.tg, 1 ≤ t ∧ t < count
  rg : ∀ e ∈ es, ∀ t ∈ e.rg, 0 ≤ t ∧ t < many
  all : ∀ v : Int, 1 ≤ v → v < count → ∃ (k : Nat) (e : End), (k : Int) < v ∧ es[k]? = some e ∧ v ∈ e.tg
/-- the rows laid -/
theorem rows0 {n : Nat} {r : G} : Rows (r ++ (List.replicate n (Ob.lst []) ++ [.lst ((List.range n).map fun k => .ref (r.length + 2 + k))])) (r.length + 2) (r.length + 2 + n) (List.replicate n []) := by
  refine ⟨⟨by omega, ?_⟩, fun k l hk => ?_, by simp, by omega⟩
  · rw [List.getElem?_append_right (by omega), List.getElem?_append_right (by simp; omega)]
    have e0 : r.length + 2 + n - 2 - r.length - (List.replicate n (Ob.lst [])).length = 0 := by simp; omega
    rw [e0]
    simp
  · have hlt : k < n := by have := (List.getElem?_eq_some_iff.mp hk).1; simpa using this
    have := List.mem_of_getElem? hk
    rw [List.eq_of_mem_replicate this]
    refine ⟨by omega, ?_⟩
    rw [List.getElem?_append_right (by omega), List.getElem?_append_left (by simp; omega), List.getElem?_replicate, if_pos (by omega)]
    rfl
theorem lay0 {call : CallF} {ρ : Dl.Env} {i : Nat} {z : SS} : ∀ (l : List Nat) (r : G), compV (.nm i) (tst T call (.cst (.bl true))) (ev T call (.lst .nil)) ρ (l.map fun (k : Nat) => W.int k) (hp z r) = .ok ((List.range l.length).map fun k => .ref (r.length + 2 + k)) (hp z (r ++ List.replicate l.length (.lst [])))
  | [], r => by simp [compV]
  | a :: l, r => by
    have ih := lay0 (call := call) (ρ := ρ) (i := i) (z := z) l (r ++ [.lst []])
    simp only [List.map_cons, compV, Tg.put, tst, ev, R.nx, R.bind, evl, R.of, truthW, hp_app, ih, hp_len]
    simp only [List.length_cons, List.range_succ_eq_map, List.map_cons, List.map_map, List.replicate_succ, List.append_assoc, List.length_append, List.length_nil, List.cons_append, List.nil_append, Nat.add_zero]
    congr 2
    apply List.map_congr_left
    intro k _
    simp only [Function.comp]
    congr 1
    omega
theorem end_to {k n j b p p6 : Nat} {many : Int} {z : SS} {r rb : G} {ls : List (List Int)} {l : List Int} {es : List End} {v4 v5 v8 v9 : Option W} {Q' : Fl → Dl.Env → G → Prop} {X' : Nat → Dl.Env → G → Prop} (hn2 : n ≤ 1000) (hm : 0 < many) (hm2 : many ≤ 1000) (hT : Tree n ls) (hln : ls.length = n)
    (hR : Rows rb b p ls) (hpp : p < p6) (a6 : At rb p6 (.lst (es.map End.w))) (hl : ls[j]? = some l) (hlen : es.length = j) (er : Ext r rb) (hr6 : r.length + 2 ≤ p6)
    (H : ∀ z1 r1 e v8 v9, Ext r r1 → At r1 p6 (.lst ((es ++ [e]).map End.w)) → Rows r1 b p ls → EndOk many n l e → Q' .nx [some (.ref 1), some (.int n), some (.int many), some (.ref p), v4, v5, some (.ref p6), some (.int j), v8, v9] (hp z1 r1)) :
    (exs T (callN T (k + 1)) Lends_3f_t0 [some (.ref 1), some (.int n), some (.int many), some (.ref p), v4, v5, some (.ref p6), some (.int j), v8, v9] (hp z rb)).To Q' X' := by
  have hjn : j < ls.length := (List.getElem?_eq_some_iff.mp hl).1
  have hjl : es.length < lim := by rw [lim_nat]; omega
  have F : ∀ {z1 : SS} {rX : G} (e : End) {v8 v9 : Option W} {Y : Nat → G → Prop}, Ext rb rX → EndOk many n l e → (M.runL .append p6 [e.w] (hp z1 rX)).To (fun _ g => Q' .nx [some (.ref 1), some (.int n), some (.int many), some (.ref p), v4, v5, some (.ref p6), some (.int j), v8, v9] g) Y := by
    intro z1 rX e v8 v9 Y eX he
    rw [(a6.ext eX).append (by simpa using hjl)]
    refine H _ _ e _ _ ((er.trans eX).set (by omega)) ?_ ((hR.ext eX).other hpp) he
    have := (a6.ext eX).set_self (o' := .lst (es.map End.w ++ [e.w]))
    simpa using this
  have u1 : ∀ {z : SS} {rX : G}, Ext rb rX → (hp z rX)[p]? = _ := fun e => (hR.ext e).top.get
  have u2 : ∀ {z : SS} {rX : G}, Ext rb rX → (hp z rX)[b + j]? = _ := fun e => ((hR.ext e).row j l hl).get
  have u6 : ∀ {z : SS} {rX : G}, Ext rb rX → (hp z rX)[p6]? = _ := fun e => (a6.ext e).get
  obtain ⟨M, hM, M1, M2, M3⟩ : ∃ M : Int, (if 1 < (n : Int) - 1 then (n : Int) - 1 else 1) = M ∧ 0 < M ∧ M ≤ 1000 ∧ (2 ≤ n → M ≤ n - 1) := ⟨_, rfl, by split <;> omega, by split <;> omega, by split <;> omega⟩
  have hup := hT.up j l hl
  exists Lends_3f_t0, Lends_3f0, hM
  refine draw_to (by omega) (by omega) fun more z1 q0 q1 => ?_
  exists Lends_3f_t1, Lends_3f1
  refine draw_to (by omega) (by omega) fun rg z1 g0 g1 => ?_
  cases l with
  | nil =>
    by_cases h1 : n = 1
    · subst h1
      exists Lends_3f_t2, Lends_3f2, u1 .rfl', atW_nat, hjn, u2 .rfl', Lends_3f2a_t0, Lends_3f2a0, u6 .rfl'
      exact F .exit .rfl' ⟨by simp [End.tg], by simp [End.rg], by simp⟩
    · have h1' : ¬ (n : Int) = 1 := by omega
      exists Lends_3f_t2, Lends_3f2, u1 .rfl', atW_nat, hjn, u2 .rfl', h1'
      refine draw_to (by omega) (by omega) fun c z1 c0 c1 => ?_
      by_cases hc : 0 < c
      · exists hc, Lends_3f2a_t0, Lends_3f2a0, u6 .rfl'
        exact F .exit .rfl' ⟨by simp [End.tg], by simp [End.rg], by simp⟩
      · exists hc, Lends_3f2b_t0, Lends_3f2b0, u1 .rfl', atW_nat, hjn, u2 .rfl', Lends_3f2b0a_t0, Lends_3f2b0a0, u6 .rfl'
        refine draw_to (by omega) (by omega) fun t z1 t0 t1 => ?_
        exists of_some
        generalize er2 : rb ++ [_] = rc
        have eb : Ext rb rc := er2 ▸ .app
        have a7 : At rc (rb.length + 2) _ := er2 ▸ At.new
        refine draw_to (by omega) (by omega) fun c z1 c0 c1 => ?_
        have hc : c = 0 ∨ c = 1 := by omega
        rcases hc with rfl | rfl
        · exists show rc[rb.length]? = _ from a7.2, u6 eb
          exact F (.jump (more + 1)) eb ⟨by simp [End.tg]; omega, by simp [End.rg], by simp⟩
        · exists show rc[rb.length]? = _ from a7.2, u6 eb
          exact F (.branch rg (more + 1) (1 + t)) eb ⟨by simp [End.tg]; omega, by simp [End.rg]; omega, by simp⟩
  | cons a l =>
    cases l with
    | nil =>
      exists Lends_3f_t2, Lends_3f2, u1 .rfl', atW_nat, hjn, u2 .rfl', Lends_3f2b_t0, Lends_3f2b0, Lends_3f2b0b_t0, Lends_3f2b0b0
      refine draw_to (by omega) (by omega) fun c z1 c0 c1 => ?_
      by_cases hc : c = 0
      · exists hc, Lends_3f2b0b0a_t0, Lends_3f2b0b0a0, u1 .rfl', atW_nat, hjn, u2 .rfl', u6 .rfl'
        exact F (.jump a) .rfl' ⟨by simp [End.tg] at hup ⊢; omega, by simp [End.rg], by simp [End.tg]⟩
      · exists hc, Lends_3f2b0b0b_t0, Lends_3f2b0b0b0, Lends_3f2b0b0b0a_t0, Lends_3f2b0b0b0a0, u1 .rfl', atW_nat, hjn, u2 .rfl', u6 .rfl'
        generalize er2 : rb ++ [_] = rc
        have eb : Ext rb rc := er2 ▸ .app
        have a7 : At rc (rb.length + 2) _ := er2 ▸ At.new
        refine draw_to (by omega) (by omega) fun c z1 c0 c1 => ?_
        have hc : c = 0 ∨ c = 1 := by omega
        have hup1 := hup a (by simp)
        rcases hc with rfl | rfl
        · exists show rc[rb.length]? = _ from a7.2, u6 eb
          exact F (.branch rg a (more + 1)) eb ⟨by simp [End.tg]; omega, by simp [End.rg]; omega, by simp [End.tg]⟩
        · exists show rc[rb.length]? = _ from a7.2, u6 eb
          exact F (.branch rg (more + 1) a) eb ⟨by simp [End.tg]; omega, by simp [End.rg]; omega, by simp [End.tg]⟩
    | cons b2 l =>
      have hl2 := hT.two _ (List.mem_of_getElem? hl)
      have : l = [] := by
        rw [List.length_cons, List.length_cons] at hl2
        exact List.length_eq_zero_iff.mp (by omega)
      subst this
      have hup1 := hup a (by simp)
      have hup2 := hup b2 (by simp)
      exists Lends_3f_t2, Lends_3f2, u1 .rfl', atW_nat, hjn, u2 .rfl', Lends_3f2b_t0, Lends_3f2b0, Lends_3f2b0b_t0, Lends_3f2b0b0, Lends_3f2b0b0b_t0, Lends_3f2b0b0b0, Lends_3f2b0b0b0b_t0, Lends_3f2b0b0b0b0, u6 .rfl'
      exact F (.branch rg a b2) .rfl' ⟨by simp [End.tg]; omega, by simp [End.rg]; omega, by simp [End.tg]⟩
theorem ends_to {k : Nat} {z : SS} {r : G} {count many : Int} {Q : W → G → Prop} {X : Nat → G → Prop} (hc : 1 ≤ count) (hc2 : count ≤ 1000) (hm : 0 < many) (hm2 : many ≤ 1000)
    (H : ∀ es p r' z', Ext r r' → r.length + 2 ≤ p → At r' p (.lst (es.map End.w)) → (es.length : Int) = count → Ends many count es → Q (.ref p) (hp z' r')) : (callN T (k + 2) 14 [.ref 1, .int count, .int many] (hp z r)).To Q X := by
  obtain ⟨n, rfl⟩ := Int.eq_ofNat_of_zero_le (show 0 ≤ count by omega)
  refine call_To at14 rfl ?_
  have l1 := lim_ok (n := n) (by omega) (by omega)
  have l2 := lim_le (n := n) (by omega)
  have l3 := lim_le (n := (n : Int).toNat - 1) (by omega)
  have h0 := lay0 (call := callN T (k + 1)) (ρ := [some (.ref 1), some (.int n), some (.int many), none, none, none, none, none, none, none]) (i := 7) (z := z) (List.range n) r
  exists Lends_t0, Lends_0, startE, l1, l2, wipeE, h0
  generalize er : r ++ (_ ++ [_]) = ra
  have ea : Ext r ra := er ▸ .app
  have hR : Rows ra (r.length + 2) (r.length + 2 + n) (List.replicate n []) := er ▸ rows0
  clear er h0
  rw [show r.length + 2 + n = r.length + n + 2 by omega] at hR
  exists Lends_t1, Lends_1, l1, l2, l3
  generalize r.length + n + 2 = p at hR ⊢
  obtain ⟨P, hP⟩ : ∃ P : Nat → Dl.Env → G → Prop, ∀ j ρ g, P j ρ g ↔ ∃ (z : SS) (rr : G) (ls : List (List Int)) (v4 v5 : Option W), ρ = [some (.ref 1), some (.int n), some (.int many), some (.ref p), v4, v5, none, none, none, none] ∧ g = hp z rr ∧ Ext r rr ∧ Rows rr (r.length + 2) p ls ∧ ls.length = n ∧ Tree (1 + j) ls := ⟨_, fun _ _ _ => Iff.rfl⟩
  refine forR_To (P := P) ((hP _ _ _).mpr ⟨z, ra, List.replicate n [], none, none, rfl, rfl, ea, hR, by simp, by simpa using Tree.start n⟩) ?_ ?_
  · intro j ρ g hj p0
    obtain ⟨z, rr, ls, v4, v5, rfl, rfl, er, hR, hn, hT⟩ := (hP _ _ _).mp p0
    refine ⟨_, rfl, ?_⟩
    have m1 := lim_ok (n := 1 + j) (by omega) (by omega)
    have m2 := lim_le (n := (1 + (j : Int)).toNat) (by omega)
    have hf : ∀ ρ : Dl.Env, ρ[3]? = some (some (.ref p)) → ρ[7]? = some none → compV (.nm 7) (tst T (callN T (k + 1)) (.cmp .lt (.b1 .len (.idx (.var 3) (.var 7))) (.cst (.int 2)))) (ev T (callN T (k + 1)) (.var 7)) ρ ((List.range (1 + (j : Int)).toNat).map fun (k : Nat) => W.int k) (hp z rr) = .ok (((List.range (1 + (j : Int)).toNat).filter fun k => decide (((ls[k]?.getD []).length : Int) < 2)).map fun (k : Nat) => W.int k) (hp z rr) := by
      intro ρ e3 e7
      refine compR_filter fun q hq => ?_
      have hq' : q < ls.length := by omega
      have e1 : ls[q]? = some ls[q] := by simp [hq']
      have u1 := hR.top.get (z := z)
      have u2 := (hR.row q _ e1).get (z := z)
      have e7' : (ρ.set 7 (some (.int q)))[7]? = some (some (.int q)) := by
        rw [List.getElem?_set_self]
        exact (List.getElem?_eq_some_iff.mp e7).1
      have e3' : (ρ.set 7 (some (.int q)))[3]? = some (some (.ref p)) := by rw [List.getElem?_set_ne (by omega)]; exact e3
      exists e3', e7', u1, u2, atW_nat, hq', R.of
    have hj0 : ls[j]? = some [] := by
      have e1 : ls[j]? = some ls[j] := List.getElem?_eq_getElem (by omega)
      rw [e1]
      have := hT.up j _ e1
      cases hl : ls[j] with
      | nil => rfl
      | cons a l => rw [hl] at this; have := this a List.mem_cons_self; omega
    have hF : j ∈ ((List.range (1 + (j : Int)).toNat).filter fun k => decide (((ls[k]?.getD []).length : Int) < 2)) := by
      rw [List.mem_filter]
      exact ⟨List.mem_range.mpr (by omega), by simp [hj0]⟩
    have hF1 := List.length_filter_le (fun k => decide (((ls[k]?.getD []).length : Int) < 2)) (List.range (1 + (j : Int)).toNat)
    have hF2 : ∀ q ∈ ((List.range (1 + (j : Int)).toNat).filter fun k => decide (((ls[k]?.getD []).length : Int) < 2)), q < 1 + j ∧ (ls[q]?.getD []).length < 2 := by
      intro q hq
      rw [List.mem_filter, List.mem_range, decide_eq_true_eq] at hq
      omega
    rw [List.length_range] at hF1
    generalize ((List.range (1 + (j : Int)).toNat).filter fun k => decide (((ls[k]?.getD []).length : Int) < 2)) = F at hf hF hF1 hF2
    have hF3 := List.length_pos_of_mem hF
    exists Lends_1f_t0, Lends_1f0, m1, m2, wipeE, hf
    generalize er2 : rr ++ [_] = rb
    have eb : Ext rr rb := er2 ▸ .app
    have a5 : At rb (rr.length + 2) (.lst (F.map fun (k : Nat) => W.int k)) := er2 ▸ At.new
    exists Lends_1f_t1, Lends_1f1, (hR.ext eb).top.get, show rb[rr.length]? = _ from a5.2
    refine draw_to (by omega) (by omega) fun v z1 v0 v1 => ?_
    obtain ⟨x, e, hx⟩ := atW_mem (xs := F.map fun (k : Nat) => W.int k) (v := v) v0 (by simpa using v1)
    obtain ⟨q, hq, rfl⟩ := List.mem_map.mp hx
    obtain ⟨hq1, hq2⟩ := hF2 q hq
    have hq3 : q < ls.length := by omega
    have e1 : ls[q]? = some ls[q] := by simp [hq3]
    have hR2 := hR.ext eb
    have u2 := (hR2.row q _ e1).get (z := z1)
    have u3 := (hR2.row q _ e1).put (z := z1) (o' := .lst ((ls[q] ++ [1 + (j : Int)]).map W.int))
    rw [e1, Option.getD_some] at hq2
    have m3 : ls[q].length < lim := by rw [lim_nat]; omega
    simp only [List.map_append, List.map_cons, List.map_nil] at u3
    have nx : P (j + 1) [some (.ref 1), some (.int n), some (.int many), some (.ref p), some (.int (1 + j)), some (.ref (rr.length + 2)), none, none, none, none] (hp z1 (rb.set (r.length + 2 + q - 2) (.lst ((ls[q] ++ [1 + (j : Int)]).map W.int)))) := by
      refine (hP _ _ _).mpr ⟨z1, _, _, _, _, rfl, rfl, (er.trans eb).set (by omega), hR2.set (l' := ls[q] ++ [1 + (j : Int)]) e1, by simpa using hn, ?_⟩
      have := hT.step e1 (by omega) hq2
      rwa [show (1 : Int) + ((j + 1 : Nat) : Int) = 1 + j + 1 by omega]
    simp only [List.map_append, List.map_cons, List.map_nil] at nx
    exists show rb[rr.length]? = _ from a5.2, e, hR2.top.get, atW_nat, hq3, hn ▸ hq3, u2, M.runL, m3, u3
    exact nx
  · intro ρ g p0
    obtain ⟨z, rr, ls, v4, v5, rfl, rfl, er, hR, hn, hT⟩ := (hP _ _ _).mp p0
    rw [show (1 : Int) + ((n - 1 : Nat) : Int) = n by omega] at hT
    clear hP p0
    exists Lends_t2, Lends_2
    generalize er2 : rr ++ [_] = rb
    have eb : Ext rr rb := er2 ▸ .app
    have a6 : At rb (rr.length + 2) (.lst []) := er2 ▸ At.new
    have hp6 : r.length + 2 ≤ rr.length + 2 := by have := er.le; omega
    have hp7 : p < rr.length + 2 := hR.top.lt
    have hR := hR.ext eb
    have er := er.trans eb
    clear er2 eb
    exists Lends_t3, Lends_3, l1, l2
    generalize rr.length + 2 = p6 at a6 hp6 hp7 ⊢
    obtain ⟨P, hP⟩ : ∃ P : Nat → Dl.Env → G → Prop, ∀ j ρ g, P j ρ g ↔ ∃ (z : SS) (rb : G) (es : List End) (v7 v8 v9 : Option W), ρ = [some (.ref 1), some (.int n), some (.int many), some (.ref p), v4, v5, some (.ref p6), v7, v8, v9] ∧ g = hp z rb ∧ Ext r rb ∧ Rows rb (r.length + 2) p ls ∧ At rb p6 (.lst (es.map End.w)) ∧ es.length = j ∧ ∀ (j : Nat) e l, es[j]? = some e → ls[j]? = some l → EndOk many n l e := ⟨_, fun _ _ _ => Iff.rfl⟩
    refine forR_To (P := P) ((hP _ _ _).mpr ⟨z, rb, [], none, none, none, rfl, rfl, er, hR, a6, rfl, by simp⟩) ?_ ?_
    · intro j ρ g hj p0
      obtain ⟨z, rb, es, v7, v8, v9, rfl, rfl, er, hR, a6, hlen, hE⟩ := (hP _ _ _).mp p0
      refine ⟨_, rfl, ?_⟩
      have hl : ls[j]? = some ls[j] := List.getElem?_eq_getElem (by omega)
      refine end_to (by omega) hm hm2 hT hn hR hp7 a6 hl hlen er hp6 fun z1 r1 e v8 v9 ex ax hR he => ?_
      refine (hP _ _ _).mpr ⟨z1, r1, es ++ [e], _, v8, v9, rfl, rfl, ex, hR, ax, by simp [hlen], fun i f q hf hq => ?_⟩
      rcases Nat.lt_or_ge i es.length with h | h
      · rw [List.getElem?_append_left h] at hf
        exact hE i f q hf hq
      · have hi : i = es.length := by
          have := (List.getElem?_eq_some_iff.mp hf).1
          simp at this; omega
        subst hi
        simp at hf
        subst hf
        rw [hlen, hl] at hq
        cases hq
        exact he
    · intro ρ g p0
      obtain ⟨z, rb, es, v7, v8, v9, rfl, rfl, er, hR, a6, hlen, hE⟩ := (hP _ _ _).mp p0
      have ok : Ends many n es := by
        refine ⟨fun e he t ht => ?_, fun e he t ht => ?_, fun v v0 v1 => ?_⟩
        · obtain ⟨i, hi⟩ := List.mem_iff_getElem?.mp he
          have h1 := (List.getElem?_eq_some_iff.mp hi).1
          exact (hE i e _ hi (List.getElem?_eq_getElem (by omega))).tg t ht
        · obtain ⟨i, hi⟩ := List.mem_iff_getElem?.mp he
          have h1 := (List.getElem?_eq_some_iff.mp hi).1
          exact (hE i e _ hi (List.getElem?_eq_getElem (by omega))).rg t ht
        · obtain ⟨q, l, hq, hv⟩ := hT.all v v0 v1
          have h1 := (List.getElem?_eq_some_iff.mp hq).1
          exact ⟨q, es[q], (hT.up q l hq v hv).1, List.getElem?_eq_getElem (by omega), (hE q _ l (List.getElem?_eq_getElem (by omega)) hq).sub v hv⟩
      have := H es p6 rb z er hp6 a6 (by omega) ok
      exists Lends_t4, Lends_4
      rw [gc_keep]
      · exact this
      · simp; omega

end Kx
namespace Kx
open Dl PySem
local macro_rules
  | `(tactic| exists $es,*) => `(tactic| simp [ev, evl, tst, its, src, ex, Tg.putS, Tg.put, $[$es:term],*])
def nodeW (nd : List W × End) : W := .tup [.tup nd.1, nd.2.w]
structure Flow (most many : Int) (ps : List (List Nat × List Nat)) (sh : List (List Nat × Int)) (nodes : List (List W × End)) : Prop where
  m2 : 2 ≤ many
  m6 : many ≤ 6
  fr : ps ∈ frames
  shOk : ShOk sh
  n1 : 1 ≤ nodes.length
  n2 : (nodes.length : Int) ≤ most
  len : ∀ nd ∈ nodes, nd.1.length ≤ 5
  ins : ∀ nd ∈ nodes, ∀ x ∈ nd.1, GIns (gcf many ps sh) x
  ends : Ends many nodes.length (nodes.map (·.2))
def graphW (many : Int) (ps : List (List Nat × List Nat)) (sh : List (List Nat × Int)) (nodes : List (List W × End)) : W := .tup [psW ps, shW sh, .int many, .tup (nodes.map nodeW)]
theorem belows_all {n : Nat} : ∀ {l : List W}, (∀ x ∈ l, below n x = true) → belows n l = true
  | [], _ => rfl
  | x :: r, h => by
    have := belows_all (l := r) fun y hy => h y (List.mem_cons_of_mem _ hy)
    simp [belows, h x (by simp), this]
theorem nodeW_pure {nd : List W × End} (h : ∀ x ∈ nd.1, Pure x) : Pure (nodeW nd) := by
  intro n
  have := belows_all (n := n) (l := nd.1) fun x hx => h x hx n
  simp [nodeW, this, nd.2.pure n]
theorem graphW_pure {most many : Int} {ps : List (List Nat × List Nat)} {sh : List (List Nat × Int)} {nodes : List (List W × End)} (h : Flow most many ps sh nodes) : Pure (graphW many ps sh nodes) := by
  intro n
  have := belows_all (n := n) (l := nodes.map nodeW) fun x hx => by
    obtain ⟨nd, hn, rfl⟩ := List.mem_map.mp hx
    exact nodeW_pure (fun y hy => (h.ins nd hn y hy).pure) n
  simp [graphW, this, psW_pure ps n, shW_pure sh n]
theorem flow_to {k : Nat} {z : SS} {r : G} {most wt : Int} {Q : W → G → Prop} {X : Nat → G → Prop} (h0 : 1 ≤ most) (h1 : most ≤ 100) (hw : wt = 0 ∨ wt = 1)
    (H : ∀ many ps sh nodes z', Flow most many ps sh nodes → Q (graphW many ps sh nodes) (hp z' r)) : (callN T (k + 4) 15 [.ref 1, .int most, .int wt] (hp z r)).To Q X := by
  refine call_To at15 rfl ?_
  exists Lflow_t0, Lflow_0, startE
  refine draw_to (by decide) (by decide) fun m z1 m0 m1 => ?_
  exists Lflow_t1, Lflow_1
  refine frame_to fun ps sh z1 hps hsh => ?_
  exists Lflow_t2, Lflow_2
  refine draw_to (by omega) (by omega) fun c z1 c0 c1 => ?_
  exists Lflow_t3, Lflow_3
  refine ends_to (by omega) (by omega) (by omega) (by omega) fun es p6 r1 z1 e1 hp6 a6 hlen hE' => ?_
  exists Lflow_t4, Lflow_4
  generalize er2 : r1 ++ [_] = r2
  have e2 : Ext r1 r2 := er2 ▸ .app
  have a7 : At r2 (r1.length + 2) (.lst []) := er2 ▸ At.new
  have hp67 := a6.lt
  have a6 := a6.ext e2
  have hp7 : r.length + 2 ≤ r1.length + 2 := by have := e1.le; omega
  have er := e1.trans e2
  have l1 := lim_ok (n := 1 + c) (by omega) (by omega)
  have l2 := lim_le (n := (1 + c).toNat) (by omega)
  exists Lflow_t5, Lflow_5, l1, l2
  generalize r1.length + 2 = p7 at a7 hp7 hp67 ⊢
  clear e1 e2 er2
  obtain ⟨P, hP⟩ : ∃ P : Nat → Dl.Env → G → Prop, ∀ j ρ g, P j ρ g ↔ ∃ (z : SS) (rr : G) (nodes : List (List W × End)) (v8 v9 : Option W), ρ = [some (.ref 1), some (.int most), some (.int wt), some (.int (2 + m)), some (.tup [psW ps, shW sh]), some (.int (1 + c)), some (.ref p6), some (.ref p7), v8, v9, none] ∧ g = hp z rr ∧ Ext r rr ∧ At rr p6 (.lst (es.map End.w)) ∧ At rr p7 (.lst (nodes.map nodeW)) ∧ nodes.length = j ∧ (∀ nd ∈ nodes, nd.1.length ≤ 5 ∧ ∀ x ∈ nd.1, GIns (gcf (2 + m) ps sh) x) ∧ nodes.map (·.2) = es.take j := ⟨_, fun _ _ _ => Iff.rfl⟩
  refine forR_To (P := P) ((hP _ _ _).mpr ⟨z1, r2, [], none, none, rfl, rfl, er, a6, a7, rfl, by simp, by simp⟩) ?_ ?_
  · intro j ρ g hj p0
    obtain ⟨z, rr, nodes, v8, v9, rfl, rfl, er, a6, a7, hn, hI, hE⟩ := (hP _ _ _).mp p0
    refine ⟨_, rfl, ?_⟩
    exists Lflow_5f_t0, Lflow_5f0
    refine draw_to (by decide) (by decide) fun q z1 q0 q1 => ?_
    have l3 := lim_ok (n := q) (by omega) (by omega)
    have l4 := lim_le (n := q.toNat) (by omega)
    exists l3, l4, wipeE
    refine compP (E := fun j w x => GIns (gcf (2 + m) ps sh) x) (by intros; simp [tst, ev]) ?_ ?_
    · intro i hi z y
      exists R.of
      exact instr_to (by omega) (by omega) hw hps hsh fun w z' hg => ⟨hg, z', y, rfl⟩
    · intro l z1 y hl hG
      generalize er3 : rr ++ y = r3
      have e3 : Ext rr r3 := er3 ▸ .app
      exists hp_app
      generalize er4 : r3 ++ [_] = r4
      have e4 : Ext r3 r4 := er4 ▸ .app
      have a9 : At r4 (r3.length + 2) (.lst l) := er4 ▸ At.new
      have e5 := e3.trans e4
      have a6' := a6.ext e5
      have a7' := a7.ext e5
      have hes : es[j]? = some es[j] := List.getElem?_eq_getElem (by omega)
      exists Lflow_5f_t1, Lflow_5f1, a7'.get, show r4[r3.length]? = _ from a9.2, seqOf, a6'.get, atW_nat, hes
      have hjl : (nodes.map nodeW).length < lim := by rw [lim_nat]; simp; omega
      have hl5 : l.length ≤ 5 := by simp at hl; omega
      have u := a7'.append (z := z1) (y := nodeW (l, es[j])) hjl
      simp only [nodeW] at u
      rw [u]
      refine (hP _ _ _).mpr ⟨z1, _, nodes ++ [(l, es[j])], _, _, rfl, rfl, ((er.trans e5).set (by omega)), a6'.set_ne (by omega) (by omega), ?_, by simp [hn], ?_, ?_⟩
      · have := a7'.set_self (o' := .lst (nodes.map nodeW ++ [nodeW (l, es[j])]))
        simpa [nodeW] using this
      · intro nd hnd
        rcases List.mem_append.mp hnd with h | h
        · exact hI nd h
        · have : nd = (l, es[j]) := by simpa using h
          subst this
          refine ⟨hl5, fun x hx => ?_⟩
          obtain ⟨i, hi, rfl⟩ := List.getElem_of_mem hx
          exact hG i (by rw [← hl]; exact hi) hi
      · rw [List.map_append, hE, List.take_succ, hes]
        rfl
  · intro ρ g p0
    obtain ⟨z, rr, nodes, v8, v9, rfl, rfl, er, a6, a7, hn, hI, hE⟩ := (hP _ _ _).mp p0
    have hlen2 : es.take (1 + c).toNat = es := List.take_of_length_le (by omega)
    rw [hlen2] at hE
    have hF : Flow most (2 + m) ps sh nodes := ⟨by omega, by omega, hps, hsh, by omega, by omega, fun nd h => (hI nd h).1, fun nd h => (hI nd h).2, by rw [hE, show ((nodes.length : Nat) : Int) = 1 + c by omega]; exact hE'⟩
    have := H (2 + m) ps sh nodes z hF
    have hb := graphW_pure hF (r.length + 2)
    unfold graphW at hb this
    exists Lflow_t6, Lflow_6, a7.get, seqOf
    rw [gc_ext er hb]
    exact this

end Kx
namespace Kx
open Dl PySem
local macro_rules
  | `(tactic| exists $es,*) => `(tactic| simp [ev, evl, tst, its, src, ex, Tg.putS, Tg.put, $[$es:term],*])
/-- the nodes to which an end leads, each once -/
def End.to : End → List Int
  | .exit => []
  | .jump t => [t]
  | .branch _ a b => if a = b then [a] else [a, b]
theorem End.mem_to (e : End) (v : Int) : v ∈ e.to ↔ v ∈ e.tg := by
  cases e with
  | exit => simp [End.to, End.tg]
  | jump t => simp [End.to, End.tg]
  | branch r a b => by_cases h : a = b <;> simp [End.to, End.tg, h]
theorem End.to_nodup (e : End) : e.to.Nodup := by
  cases e with
  | exit => simp [End.to]
  | jump t => simp [End.to]
  | branch r a b => by_cases h : a = b <;> simp [End.to, h]
theorem End.to_len (e : End) : e.to.length ≤ 2 := by
  cases e with
  | exit => simp [End.to]
  | jump t => simp [End.to]
  | branch r a b => by_cases h : a = b <;> simp [End.to, h]
/-- the edges of a graph -/
def leadL (nodes : List (List W × End)) : List (List Int) := nodes.map (·.2.to)
theorem ends_of_ok (k : Nat) (z : SS) (r : G) (e : End) : callN T (k + 1) 0 [e.w] (hp z r) = .ok (.ref (r.length + 2)) (hp z (r ++ [.lst (e.to.map W.int)])) := by
  have key : (callN T (k + 1) 0 [e.w] (hp z r)).To (fun w g => w = .ref (r.length + 2) ∧ g = hp z (r ++ [.lst (e.to.map W.int)])) noX := by
    refine call_To at0 rfl ?_
    cases e with
    | exit => exists Fends_of_0a0, Fends_of_0a_t0, Fends_of_0, Fends_of_1a0a0, Fends_of_1a0a_t0, Fends_of_1a0, Fends_of_1a1, Fends_of_1a_t1, Fends_of_1a_t0, Fends_of_1, Fends_of_2, Fends_of_t2, Fends_of_t1, Fends_of_t0, startE, End.w, End.to
    | jump t => exists Fends_of_0a0, Fends_of_0a_t0, Fends_of_0, Fends_of_1a0a0, Fends_of_1a0a_t0, Fends_of_1a0, Fends_of_1a1, Fends_of_1a_t1, Fends_of_1a_t0, Fends_of_1, Fends_of_2, Fends_of_t2, Fends_of_t1, Fends_of_t0, startE, End.w, End.to
    | branch rg a b => by_cases h : a = b <;> exists Fends_of_0a0, Fends_of_0a_t0, Fends_of_0, Fends_of_1a0a0, Fends_of_1a0a_t0, Fends_of_1a0, Fends_of_1a1, Fends_of_1a_t1, Fends_of_1a_t0, Fends_of_1, Fends_of_2, Fends_of_t2, Fends_of_t1, Fends_of_t0, startE, End.w, End.to, h
  obtain ⟨w, g, e, rfl, rfl⟩ := key.ok
  exact e
/-- lists laid one by one -/
theorem rows1 {ll : List (List Int)} {r : G} : Rows (r ++ (ll.map (fun l => Ob.lst (l.map W.int)) ++ [.lst ((List.range ll.length).map fun k => .ref (r.length + 2 + k))])) (r.length + 2) (r.length + 2 + ll.length) ll := by
  refine ⟨⟨by omega, ?_⟩, fun k l hk => ?_, by simp, by omega⟩
  · rw [List.getElem?_append_right (by omega), List.getElem?_append_right (by simp; omega)]
    have e0 : r.length + 2 + ll.length - 2 - r.length - (ll.map (fun l => Ob.lst (l.map W.int))).length = 0 := by simp; omega
    rw [e0]
    simp
  · have hlt := (List.getElem?_eq_some_iff.mp hk).1
    refine ⟨by omega, ?_⟩
    rw [List.getElem?_append_right (by omega), List.getElem?_append_left (by simp; omega), List.getElem?_map, show r.length + 2 + k - 2 - r.length = k by omega, hk]
    rfl
theorem lay1 {k : Nat} {z : SS} {ρ0 : Option W} : ∀ (nodes : List (List W × End)) (r : G), compV (.tp [1, 2]) (tst T (callN T (k + 1)) (.cst (.bl true))) (ev T (callN T (k + 1)) (.call 0 (.cons (.var 2) .nil))) [ρ0, none, none] (nodes.map nodeW) (hp z r) = .ok ((List.range nodes.length).map fun k => .ref (r.length + 2 + k)) (hp z (r ++ nodes.map (fun nd => Ob.lst (nd.2.to.map W.int))))
  | [], r => by simp [compV]
  | nd :: l, r => by
    have ih := lay1 (k := k) (z := z) (ρ0 := ρ0) l (r ++ [.lst (nd.2.to.map W.int)])
    have e1 := ends_of_ok k z r nd.2
    have e2 : Tg.put (.tp [1, 2]) (nodeW nd) [ρ0, none, none] = some [ρ0, some (.tup nd.1), some nd.2.w] := rfl
    simp only [List.map_cons, compV, e2]
    simp only [tst, ev, R.nx, R.bind, evl, R.of, truthW, List.getElem?_cons_succ, List.getElem?_cons_zero, e1, ih]
    simp only [List.length_cons, List.range_succ_eq_map, List.map_cons, List.map_map, List.append_assoc, List.length_append, List.length_nil, List.cons_append, List.nil_append, Nat.add_zero]
    congr 2
    apply List.map_congr_left
    intro k _
    simp only [Function.comp]
    congr 1
    omega
theorem leads_to_ok {k : Nat} {z : SS} {r : G} {a b c : W} {nodes : List (List W × End)} {Q : W → G → Prop} {X : Nat → G → Prop} (hl : nodes.length ≤ 1000)
    (H : ∀ r', Ext r r' → Rows r' (r.length + 2) (r.length + 2 + nodes.length) (leadL nodes) → Q (.ref (r.length + 2 + nodes.length)) (hp z r')) : (callN T (k + 2) 1 [.tup [a, b, c, .tup (nodes.map nodeW)]] (hp z r)).To Q X := by
  refine call_To at1 rfl ?_
  have l2 := lim_le hl
  have e := lay1 (k := k) (z := z) (ρ0 := some (.tup [a, b, c, .tup (nodes.map nodeW)])) nodes r
  have R := rows1 (ll := leadL nodes) (r := r)
  have hn : (leadL nodes).length = nodes.length := by simp [leadL]
  rw [hn] at R
  have := H _ .app R
  exists Fleads_to_0, Fleads_to_t0, startE, wipeE, l2, e
  rw [if_neg (by omega)]
  simp only [leadL, List.map_map] at this
  rw [show r.length + nodes.length + 2 = r.length + 2 + nodes.length by omega]
  exact this
/-- who leads to a node -/
def fromL (nodes : List (List W × End)) (j : Nat) (l1 : List Int) (b : Nat) : List Int :=
  ((List.range j).filter fun a => decide ((b : Int) ∈ ((leadL nodes)[a]?.getD []))).map (fun (a : Nat) => (a : Int)) ++ if (b : Int) ∈ l1 then [(j : Int)] else []
def comeL (nodes : List (List W × End)) : List (List Int) := (List.range nodes.length).map (fromL nodes nodes.length [])
theorem lay2 {call : CallF} {ρ : Dl.Env} {i : Nat} {z : SS} : ∀ (l : List W) (r : G), compV (.nm i) (tst T call (.cst (.bl true))) (ev T call (.lst .nil)) ρ l (hp z r) = .ok ((List.range l.length).map fun k => .ref (r.length + 2 + k)) (hp z (r ++ List.replicate l.length (.lst [])))
  | [], r => by simp [compV]
  | a :: l, r => by
    have ih := lay2 (call := call) (ρ := ρ) (i := i) (z := z) l (r ++ [.lst []])
    simp only [compV, Tg.put, tst, ev, R.nx, R.bind, evl, R.of, truthW, hp_app, ih, hp_len]
    simp only [List.length_cons, List.range_succ_eq_map, List.map_cons, List.map_map, List.replicate_succ, List.append_assoc, List.length_append, List.length_nil, List.cons_append, List.nil_append, Nat.add_zero]
    congr 2
    apply List.map_congr_left
    intro k _
    simp only [Function.comp]
    congr 1
    omega
theorem fromL_next (nodes : List (List W × End)) (j b : Nat) : fromL nodes (j + 1) [] b = fromL nodes j ((leadL nodes)[j]?.getD []) b := by
  unfold fromL
  rw [List.range_succ, List.filter_append, List.map_append]
  by_cases h : (b : Int) ∈ ((leadL nodes)[j]?.getD []) <;> simp [h]
theorem fromL_step (nodes : List (List W × End)) (j b : Nat) (l1 : List Int) (v : Int) (h : v ∉ l1) : fromL nodes j (l1 ++ [v]) b = if (b : Int) = v then fromL nodes j l1 b ++ [(j : Int)] else fromL nodes j l1 b := by
  unfold fromL
  by_cases e : (b : Int) = v
  · subst e; simp [h]
  · simp [e]
theorem fromL_len (nodes : List (List W × End)) (j b : Nat) (l1 : List Int) : (fromL nodes j l1 b).length ≤ j + 1 := by
  unfold fromL
  have := List.length_filter_le (fun a => decide ((b : Int) ∈ ((leadL nodes)[a]?.getD []))) (List.range j)
  simp at this
  split <;> simp <;> omega
theorem map_range_set {α : Type} {F : Nat → α} {n q : Nat} {x : α} : ((List.range n).map F).set q x = (List.range n).map (fun b => if b = q then x else F b) := by
  refine List.ext_getElem (by simp) fun i h1 h2 => ?_
  rw [List.getElem_set]
  by_cases e : q = i
  · subst e; simp
  · simp [e, show ¬ i = q from fun h => e h.symm]
theorem comes_from_ok {k : Nat} {z : SS} {r : G} {a b c : W} {nodes : List (List W × End)} {Q : W → G → Prop} {X : Nat → G → Prop} (hl : nodes.length ≤ 1000) (ht : ∀ nd ∈ nodes, ∀ t ∈ nd.2.tg, 0 ≤ t ∧ t < nodes.length)
    (H : ∀ r', Ext r r' → Rows r' (r.length + 2) (r.length + 2 + nodes.length) (comeL nodes) → Q (.ref (r.length + 2 + nodes.length)) (hp z r')) : (callN T (k + 3) 2 [.tup [a, b, c, .tup (nodes.map nodeW)]] (hp z r)).To Q X := by
  refine call_To at2 rfl ?_
  have l2 := lim_le hl
  have e := lay2 (call := callN T (k + 2)) (ρ := [some (.tup [a, b, c, .tup (nodes.map nodeW)]), none, none, none, none, none]) (i := 5) (z := z) (nodes.map nodeW) r
  rw [List.length_map] at e
  exists Fcomes_from_t0, Fcomes_from_0, startE, wipeE, l2, e
  generalize er : r ++ (_ ++ [_]) = ra
  have ea : Ext r ra := er ▸ .app
  have hR : Rows ra (r.length + 2) (r.length + 2 + nodes.length) (List.replicate nodes.length []) := er ▸ rows0
  rw [show r.length + 2 + nodes.length = r.length + nodes.length + 2 by omega] at hR H
  clear er e
  exists Fcomes_from_t1, Fcomes_from_1
  refine leads_to_ok hl fun rb eb hL => ?_
  have hpb := hR.top.lt
  have hR := hR.ext eb
  have er := ea.trans eb
  exists hL.top.get
  generalize hp1 : r.length + nodes.length + 2 = p at hR hpb H ⊢
  generalize hp2 : ra.length + 2 + nodes.length = p2 at hL ⊢
  have hn : (leadL nodes).length = nodes.length := by simp [leadL]
  have hv : ∀ (j : Nat) (l : List Int), (leadL nodes)[j]? = some l → l.length ≤ 2 ∧ l.Nodup ∧ ∀ v ∈ l, 0 ≤ v ∧ v < nodes.length := by
    intro j l hj
    obtain ⟨nd, hnd, rfl⟩ := List.mem_map.mp (List.mem_of_getElem? hj)
    exact ⟨nd.2.to_len, nd.2.to_nodup, fun v hv => ht nd hnd v ((nd.2.mem_to v).mp hv)⟩
  obtain ⟨P, hP⟩ : ∃ P : Nat → Dl.Env → G → Prop, ∀ j ρ g, P j ρ g ↔ ∃ (rr : G) (v2 v3 v4 : Option W), ρ = [some (.tup [a, b, c, .tup (nodes.map nodeW)]), some (.ref p), v2, v3, v4, none] ∧ g = hp z rr ∧ Ext r rr ∧ Rows rr (r.length + 2) p ((List.range nodes.length).map (fromL nodes j [])) ∧ Rows rr (ra.length + 2) p2 (leadL nodes) := ⟨_, fun _ _ _ => Iff.rfl⟩
  refine forE_To (P := P) (ws := (List.range (leadL nodes).length).map fun k => .ref (ra.length + 2 + k)) (by simp [hn, FUEL, lim_nat]; omega) ((hP _ _ _).mpr ⟨rb, none, none, none, rfl, rfl, er, ?_, hL⟩) ?_ ?_ ?_
  · have : (List.range nodes.length).map (fromL nodes 0 []) = List.replicate nodes.length [] := by
      refine List.ext_getElem (by simp) fun i h1 h2 => ?_
      simp [fromL]
    rw [this]; exact hR
  · intro j ρ g p0
    obtain ⟨rr, v2, v3, v4, rfl, rfl, er, hR, hL⟩ := (hP _ _ _).mp p0
    exact hL.top.get
  · intro j ρ g hj p0
    obtain ⟨rr, v2, v3, v4, rfl, rfl, er, hR, hL⟩ := (hP _ _ _).mp p0
    have hjn : j < (leadL nodes).length := by simpa using hj
    have hlj : (leadL nodes)[j]? = some (leadL nodes)[j] := List.getElem?_eq_getElem hjn
    obtain ⟨hl2, hnd, hlt⟩ := hv j _ hlj
    have hnx := fromL_next nodes j
    rw [hlj, Option.getD_some] at hnx
    generalize (leadL nodes)[j] = l at hlj hl2 hnd hlt hnx
    refine ⟨_, rfl, ?_⟩
    exists Fcomes_from_1f_t0, Fcomes_from_1f0, (hL.row j l hlj).get
    obtain ⟨P2, hP2⟩ : ∃ P2 : Nat → Dl.Env → G → Prop, ∀ i ρ g, P2 i ρ g ↔ ∃ (rr : G) (v4 : Option W), ρ = [some (.tup [a, b, c, .tup (nodes.map nodeW)]), some (.ref p), some (.int j), some (.ref (ra.length + 2 + j)), v4, none] ∧ g = hp z rr ∧ Ext r rr ∧ Rows rr (r.length + 2) p ((List.range nodes.length).map (fromL nodes j (l.take i))) ∧ Rows rr (ra.length + 2) p2 (leadL nodes) := ⟨_, fun _ _ _ => Iff.rfl⟩
    refine forJ_To (P := P2) (ws := l.map W.int) (by simp [FUEL, lim_nat]; omega) ((hP2 _ _ _).mpr ⟨rr, v4, rfl, rfl, er, hR, hL⟩) ?_ ?_ ?_
    · intro i ρ g p0
      obtain ⟨rr, v4, rfl, rfl, er, hR, hL⟩ := (hP2 _ _ _).mp p0
      exact (hL.row j l hlj).get
    · intro i ρ g hi p0
      obtain ⟨rr, v4, rfl, rfl, er, hR, hL⟩ := (hP2 _ _ _).mp p0
      have hil : i < l.length := by simpa using hi
      obtain ⟨hv0, hv1⟩ := hlt l[i] (List.getElem_mem hil)
      obtain ⟨q, hq⟩ := Int.eq_ofNat_of_zero_le hv0
      have hqn : q < nodes.length := by omega
      refine ⟨_, rfl, ?_⟩
      have hrow := hR.row q (fromL nodes j (l.take i) q) (by simp [hqn])
      have hlen := fromL_len nodes j q (l.take i)
      have hap := hrow.append (z := z) (y := .int j) (by rw [lim_nat]; simp; omega)
      have hnx2 : ∀ b, fromL nodes j (l.take (i + 1)) b = if b = q then fromL nodes j (l.take i) q ++ [(j : Int)] else fromL nodes j (l.take i) b := by
        intro b
        rw [List.take_succ_eq_append_getElem hil, fromL_step]
        · by_cases e : b = q
          · subst e; rw [if_pos (by omega), if_pos rfl]
          · rw [if_neg (by omega), if_neg e]
        · intro hm
          obtain ⟨i2, hi2, e⟩ := List.getElem_of_mem hm
          have : i2 < i := by have := List.length_take_le i l; omega
          rw [List.getElem_take] at e
          exact absurd ((List.getElem_inj hnd).mp e) (by omega)
      have nx : P2 (i + 1) [some (.tup [a, b, c, .tup (nodes.map nodeW)]), some (.ref p), some (.int j), some (.ref (ra.length + 2 + j)), some (.int l[i]), none] (hp z (rr.set (r.length + 2 + q - 2) (.lst ((fromL nodes j (l.take i) q).map W.int ++ [.int j])))) := by
        refine (hP2 _ _ _).mpr ⟨_, _, rfl, rfl, er.set (by omega), ?_, hL.under (by omega) (by omega)⟩
        have := hR.set (l := fromL nodes j (l.take i) q) (l' := fromL nodes j (l.take i) q ++ [(j : Int)]) (k := q) (by simp [hqn])
        rw [map_range_set] at this
        simp only [List.map_append, List.map_cons, List.map_nil] at this
        rw [List.map_congr_left fun b _ => hnx2 b]
        exact this
      exists Fcomes_from_1f0f_t0, Fcomes_from_1f0f0, hR.top.get, hq, atW_nat, hqn, hrow.get, hap
      rw [hq] at nx
      exact nx
    · intro ρ g p0
      obtain ⟨rr, v4, rfl, rfl, er, hR, hL⟩ := (hP2 _ _ _).mp p0
      rw [show (l.map W.int).length = l.length by simp, List.take_length, ← List.map_congr_left fun b _ => hnx b] at hR
      exists nxt_nx
      exact (hP _ _ _).mpr ⟨rr, _, _, v4, rfl, rfl, er, hR, hL⟩
  · intro ρ g p0
    obtain ⟨rr, v2, v3, v4, rfl, rfl, er, hR, hL⟩ := (hP _ _ _).mp p0
    have hR2 : Rows rr (r.length + 2) p (comeL nodes) := by simpa [comeL, hn] using hR
    exists Fcomes_from_t2, Fcomes_from_2
    rw [gc_keep (by simp; omega)]
    exact H rr er hR2

end Kx
/-! DlY: what repr says, bounds of its texts; data in the heap; comprehensions by turns. -/
namespace Dl
open PySem
theorem shown_int_le {i : Int} (h : i.natAbs < 10 ^ 9) : (PyData.int i).shown.length ≤ 10 := by
  have := int_text_length_le10 (k := 9) (by decide) h
  simp only [PyData.shown]
  rw [ofString_length]
  exact this
theorem shownAll_map (xs : List PyData) : PyData.shownAll xs = xs.map PyData.shown := by
  induction xs with
  | nil => rfl
  | cons x r ih => simp [PyData.shownAll, ih]
theorem piled_le {b : Nat} : ∀ {ts : List Str}, (∀ t ∈ ts, t.length ≤ b) → piled ts ≤ ts.length * (b + 2)
  | [], _ => by simp [piled]
  | t :: r, h => by
    have h1 := h t List.mem_cons_self
    have h2 := piled_le (ts := r) fun t ht => h t (List.mem_cons_of_mem _ ht)
    rw [piled_cons, List.length_cons, Nat.add_mul]
    omega
theorem listText_le (ts : List Str) : (listText ts).length ≤ 2 + piled ts := by
  cases ts with
  | nil => decide
  | cons t r =>
    have h := textFrom_length_pos r 1 (("[" : Str) ++ (if (0 : Nat) > 0 then ", " else "" : String) ++ t) (Nat.succ_pos 0)
    have e : ((("[" : Str) ++ (if (0 : Nat) > 0 then ", " else "" : String) ++ t)).length = 1 + t.length := by
      rw [strLen_append, strLen_append]; rfl
    have hX : (listText (t :: r)).length = (textFrom 0 "[" (t :: r)).length + 1 := by
      show (textFrom 0 "[" (t :: r) ++ "]").length = _
      rw [strLen_append]; rfl
    have hY : (textFrom 0 "[" (t :: r)).length = (textFrom 1 (("[" : Str) ++ (if (0 : Nat) > 0 then ", " else "" : String) ++ t) r).length := rfl
    rw [hX, hY, h, e, piled_cons]; omega
theorem shown_list_le {xs : List PyData} {b : Nat} (h : ∀ x ∈ xs, x.shown.length ≤ b) : (PyData.list xs).shown.length ≤ 2 + xs.length * (b + 2) := by
  simp only [PyData.shown, shownAll_map]
  have h1 := listText_le (xs.map PyData.shown)
  have h2 := piled_le (ts := xs.map PyData.shown) (b := b) fun t ht => by
    obtain ⟨x, hx, rfl⟩ := List.mem_map.mp ht
    exact h x hx
  rw [List.length_map] at h2
  omega
theorem shown_tuple_le {xs : List PyData} {b : Nat} (h : ∀ x ∈ xs, x.shown.length ≤ b) : (PyData.tuple xs).shown.length ≤ 3 + xs.length * (b + 2) := by
  simp only [PyData.shown, shownAll_map]
  have h2 := piled_le (ts := xs.map PyData.shown) (b := b) fun t ht => by
    obtain ⟨x, hx, rfl⟩ := List.mem_map.mp ht
    exact h x hx
  rw [List.length_map] at h2
  have h3 : (tupleText (xs.map PyData.shown)).length ≤ 3 + piled (xs.map PyData.shown) := by
    unfold tupleText
    rw [strLen_append, strLen_append]
    have e1 : ("(" : Str).length = 1 := rfl
    have e2 : (((if (xs.map PyData.shown).length == 1 then ",)" else ")" : String)) : Str).length ≤ 2 := by split <;> decide
    by_cases hn : xs.map PyData.shown = []
    · have e3 : (Str.join ", " (xs.map PyData.shown)).length = 0 := by rw [hn]; rfl
      omega
    · have e3 := join_length_add _ hn
      omega
  omega
theorem showableAll_iff (xs : List PyData) : PyData.showableAll xs = true ↔ ∀ x ∈ xs, x.showable = true := by
  induction xs with
  | nil => simp [PyData.showableAll]
  | cons x r ih => simp [PyData.showableAll, ih]
theorem showable_list {xs : List PyData} (h : ∀ x ∈ xs, x.showable = true) : (PyData.list xs).showable = true := by
  simp only [PyData.showable]
  exact (showableAll_iff xs).mpr h
theorem showable_tuple {xs : List PyData} (h : ∀ x ∈ xs, x.showable = true) : (PyData.tuple xs).showable = true := by
  simp only [PyData.showable]
  exact (showableAll_iff xs).mpr h
theorem showable_int {i : Int} (h : i.natAbs < 10 ^ 9) : (PyData.int i).showable = true := by
  simp only [PyData.showable, decide_eq_true_eq]
  by_cases z : i.natAbs = 0
  · rw [z]; decide
  · exact (Nat.log2_lt z).mpr (Nat.lt_trans h (by decide +kernel))
/-- what can be shown: its text is not long -/
def Shows (b : Nat) (d : PyData) : Prop := d.showable = true ∧ d.shown.length ≤ b
theorem Shows.int {i : Int} (h : i.natAbs < 10 ^ 9) : Shows 10 (.int i) := ⟨showable_int h, shown_int_le h⟩
theorem Shows.list {xs : List PyData} {b c : Nat} (h : ∀ x ∈ xs, Shows b x) (hc : 2 + xs.length * (b + 2) ≤ c) : Shows c (.list xs) :=
  ⟨showable_list fun x hx => (h x hx).1, Nat.le_trans (shown_list_le fun x hx => (h x hx).2) hc⟩
theorem Shows.tuple {xs : List PyData} {b c : Nat} (h : ∀ x ∈ xs, Shows b x) (hc : 3 + xs.length * (b + 2) ≤ c) : Shows c (.tuple xs) :=
  ⟨showable_tuple fun x hx => (h x hx).1, Nat.le_trans (shown_tuple_le fun x hx => (h x hx).2) hc⟩
/-- data in the heap's rest -/
def Isr (r : G) (n : Nat) (w : W) (d : PyData) : Prop := ∀ (z : SS) (x : G), dataOk (hp z (r ++ x)) n w = true ∧ pd (hp z (r ++ x)) n w = d
theorem Isr.ext {r r' : G} {n : Nat} {w : W} {d : PyData} (h : Isr r n w d) (e : Ext r r') : Isr r' n w d := by
  obtain ⟨y, rfl⟩ := e
  intro z x
  rw [List.append_assoc]
  exact h z (y ++ x)
theorem Isr.int {r : G} {n : Nat} {i : Int} : Isr r (n + 1) (.int i) (.int i) := fun _ _ => ⟨rfl, rfl⟩
theorem Isr.bl {r : G} {n : Nat} {i : Bool} : Isr r (n + 1) (.bl i) (.bool i) := fun _ _ => ⟨rfl, rfl⟩
theorem Isr.non {r : G} {n : Nat} : Isr r (n + 1) .non .none := fun _ _ => ⟨rfl, rfl⟩
theorem Isr.lst {r : G} {n p : Nat} {ws : List W} {ds : List PyData} (h : At r p (.lst ws)) (hl : ds.length = ws.length) (H : ∀ (i : Nat) w d, ws[i]? = some w → ds[i]? = some d → Isr r n w d) : Isr r (n + 1) (.ref p) (.list ds) := by
  intro z x
  have hg := h.get' (z := z) (x := x)
  simp only [dataOk, pd, lstOf, hg]
  constructor
  · rw [List.all_eq_true]
    intro w hw
    obtain ⟨i, hi⟩ := List.mem_iff_getElem?.mp hw
    have h1 := (List.getElem?_eq_some_iff.mp hi).1
    exact (H i w _ hi (List.getElem?_eq_getElem (by omega)) z x).1
  · congr 1
    refine List.ext_getElem (by simp [hl]) fun i h1 h2 => ?_
    simp only [List.length_map, Option.getD_some] at h1
    simp only [Option.getD_some, List.getElem_map]
    exact (H i _ _ (List.getElem?_eq_getElem h1) (List.getElem?_eq_getElem h2) z x).2
theorem Isr.tup {r : G} {n : Nat} {ws : List W} {ds : List PyData} (hl : ds.length = ws.length) (H : ∀ (i : Nat) w d, ws[i]? = some w → ds[i]? = some d → Isr r n w d) : Isr r (n + 1) (.tup ws) (.tuple ds) := by
  intro z x
  simp only [dataOk, pd]
  constructor
  · rw [List.all_eq_true]
    intro w hw
    obtain ⟨i, hi⟩ := List.mem_iff_getElem?.mp hw
    have h1 := (List.getElem?_eq_some_iff.mp hi).1
    exact (H i w _ hi (List.getElem?_eq_getElem (by omega)) z x).1
  · congr 1
    refine List.ext_getElem (by simp [hl]) fun i h1 h2 => ?_
    simp only [List.length_map] at h1
    simp only [List.getElem_map]
    exact (H i _ _ (List.getElem?_eq_getElem h1) (List.getElem?_eq_getElem h2) z x).2
theorem repr_ref {r x : G} {z : SS} {p : Nat} {d : PyData} (h : Isr r 60 (.ref p) d) (s : Shows 1000000 d) : B1.run .repr (.ref p) (hp z (r ++ x)) = some (.str d.shown.cps.toList) := by
  obtain ⟨h1, h2⟩ := h z x
  simp only [B1.run, reprW, h1, h2, s.1, decide_eq_true s.2]
  rfl
theorem repr_ref0 {r : G} {z : SS} {p : Nat} {d : PyData} (h : Isr r 60 (.ref p) d) (s : Shows 1000000 d) : B1.run .repr (.ref p) (hp z r) = some (.str d.shown.cps.toList) := by
  have := repr_ref (x := []) (z := z) h s
  rwa [List.append_nil] at this
/-- x in a list of whole numbers -/
theorem in_ints {g : G} {q : Nat} {v : Int} {l : List Int} (h : g[q]? = some (.lst (l.map W.int))) : inW (.int v) (.ref q) g = some (decide (v ∈ l)) := by
  have h1 : (l.map W.int).all flatW = true := by simp [flatW]
  have h2 : ((l.map W.int).any fun w => seqb w (.int v)) = decide (v ∈ l) := by
    rw [List.any_map, Bool.eq_iff_iff, List.any_eq_true, decide_eq_true_eq]
    constructor
    · rintro ⟨a, ha, e⟩
      have : a = v := by simpa [seqb] using e
      rwa [← this]
    · intro hv
      exact ⟨v, hv, by simp [seqb]⟩
  simp only [inW, h, h1, h2]
  rfl
/-- a comprehension over whole numbers from 0 on, by an invariant of the turn -/
theorem compR_To {i n : Nat} {c : Env → G → R Bool} {el : Env → G → R W} {ρ : Env} {g : G} {Q : List W → G → Prop} {X : Nat → G → Prop} {P : Nat → List W → G → Prop} (p0 : P 0 [] g)
    (h1 : ∀ j acc g, j < n → P j acc g → (c (ρ.set i (some (.int j))) g).To (fun k g1 => match k with
      | false => P (j + 1) acc g1
      | true => (el (ρ.set i (some (.int j))) g1).To (fun x g2 => P (j + 1) (acc ++ [x]) g2) noX) noX) (h2 : ∀ acc g, P n acc g → Q acc g) : (compV (.nm i) c el ρ ((List.range n).map fun (k : Nat) => W.int k) g).To Q X := by
  have := compV_To (t := .nm i) (c := c) (el := el) (ρ := ρ) (Q := Q) (X := X) (ws := (List.range n).map fun (k : Nat) => W.int k) (acc := []) (g := g)
    (P := fun rest acc g => ∃ j, j ≤ n ∧ rest = ((List.range n).map fun (k : Nat) => W.int k).drop j ∧ P j acc g) ⟨0, Nat.zero_le _, rfl, p0⟩ ?_ ?_
  · simpa using this
  · rintro w rest acc g ⟨j, hj, e, p⟩
    have hlt : j < n := by
      rcases Nat.lt_or_ge j n with h | h
      · exact h
      · rw [List.drop_eq_nil_of_le (by simpa using h)] at e; cases e
    rw [List.drop_eq_getElem_cons (by simpa using hlt)] at e
    obtain ⟨rfl, rfl⟩ := List.cons.inj e
    refine ⟨_, rfl, ?_⟩
    simp only [List.getElem_map, List.getElem_range]
    refine (h1 j acc g hlt p).imp (fun k g1 q => ?_) (fun _ _ h => h)
    cases k with
    | false => exact ⟨j + 1, hlt, rfl, q⟩
    | true => exact R.To.imp q (fun x g2 q => ⟨j + 1, hlt, rfl, q⟩) (fun _ _ h => h)
  · rintro acc g ⟨j, hj, e, p⟩ xs rfl
    have : j = n := by have := List.drop_eq_nil_iff.mp e.symm; simp at this; omega
    subst this
    exact h2 acc g p
end Dl

namespace Kx
open Dl PySem
local macro_rules
  | `(tactic| exists $es,*) => `(tactic| simp [ev, evl, tst, its, src, ex, Tg.putS, Tg.put, $[$es:term],*])
/-- a list of lists, wherever they lie -/
structure LL (g : G) (lo p : Nat) (refs : List Nat) (ls : List (List Int)) : Prop where
  top : At g p (.lst (refs.map W.ref))
  len : refs.length = ls.length
  row : ∀ (i q : Nat) (l : List Int), refs[i]? = some q → ls[i]? = some l → At g q (.lst (l.map W.int)) ∧ lo ≤ q
  lop : lo ≤ p
theorem LL.ext {g g' : G} {lo p : Nat} {refs : List Nat} {ls : List (List Int)} (h : LL g lo p refs ls) (e : Ext g g') : LL g' lo p refs ls :=
  ⟨h.top.ext e, h.len, fun i q l a b => ⟨(h.row i q l a b).1.ext e, (h.row i q l a b).2⟩, h.lop⟩
theorem LL.at {g : G} {lo p : Nat} {refs : List Nat} {ls : List (List Int)} (h : LL g lo p refs ls) {i : Nat} {l : List Int} (hl : ls[i]? = some l) : ∃ q, refs[i]? = some q ∧ At g q (.lst (l.map W.int)) := by
  have h1 := (List.getElem?_eq_some_iff.mp hl).1
  have e : refs[i]? = some (refs[i]'(by rw [h.len]; exact h1)) := List.getElem?_eq_getElem _
  exact ⟨_, e, (h.row i _ l e hl).1⟩
theorem Rows.toLL {g : G} {b p : Nat} {ls : List (List Int)} (h : Rows g b p ls) : LL g b p ((List.range ls.length).map fun k => b + k) ls :=
  ⟨by simpa [Function.comp_def] using h.top, by simp, fun i q l h2 h3 => by
    have h1 := (List.getElem?_eq_some_iff.mp h3).1
    have : q = b + i := by simpa [h1] using h2.symm
    subst this
    exact ⟨h.row i l h3, by omega⟩, by have := h.le; omega⟩
def DL (ls : List (List Int)) : PyData := .list (ls.map fun l => .list (l.map .int))
theorem LL.isr {g : G} {lo p n : Nat} {refs : List Nat} {ls : List (List Int)} (h : LL g lo p refs ls) : Isr g (n + 3) (.ref p) (DL ls) := by
  refine Isr.lst h.top (by simp [h.len]) fun i w d hw hd => ?_
  rw [List.getElem?_map] at hw hd
  cases hr : refs[i]? with
  | none => rw [hr] at hw; cases hw
  | some q =>
    cases hl : ls[i]? with
    | none => rw [hl] at hd; cases hd
    | some l =>
      rw [hr] at hw
      rw [hl] at hd
      cases hw
      cases hd
      refine Isr.lst (h.row i q l hr hl).1 (by simp) fun j w d hw hd => ?_
      rw [List.getElem?_map] at hw hd
      cases hj : l[j]? with
      | none => rw [hj] at hw; cases hw
      | some v =>
        rw [hj] at hw hd
        cases hw
        cases hd
        exact Isr.int
theorem DL_shows {ls : List (List Int)} {a b : Nat} (h1 : ls.length ≤ a) (h2 : ∀ l ∈ ls, l.length ≤ b) (h3 : ∀ l ∈ ls, ∀ v ∈ l, v.natAbs < 10 ^ 9) : Shows (2 + a * (2 + b * 12 + 2)) (DL ls) := by
  refine Shows.list (b := 2 + b * 12) (fun x hx => ?_) ?_
  · obtain ⟨l, hl, rfl⟩ := List.mem_map.mp hx
    refine Shows.list (b := 10) (fun x hx => ?_) ?_
    · obtain ⟨v, hv, rfl⟩ := List.mem_map.mp hx
      exact Shows.int (h3 l hl v hv)
    · rw [List.length_map]
      have := h2 l hl
      omega
  · rw [List.length_map]
    have := Nat.mul_le_mul_right (2 + b * 12 + 2) h1
    omega
theorem lleads_to {k : Nat} {z : SS} {r : G} {nodes : List (List W × End)} {Q : W → G → Prop} {X : Nat → G → Prop} (hl : nodes.length ≤ 1000)
    (H : ∀ p refs r', Ext r r' → LL r' (r.length + 2) p refs (leadL nodes) → Q (.ref p) (hp z r')) : (callN T (k + 1) 16 [.tup (nodes.map nodeW)] (hp z r)).To Q X := by
  refine call_To at16 rfl ?_
  exists Lleads_t0, Lleads_0, startE
  generalize er : r ++ [_] = ra
  have ea : Ext r ra := er ▸ .app
  have a0 : At ra (r.length + 2) (.lst []) := er ▸ At.new
  exists Lleads_t1, Lleads_1
  generalize hp1 : r.length + 2 = p at a0 H ⊢
  have hn : (leadL nodes).length = nodes.length := by simp [leadL]
  obtain ⟨P, hP⟩ : ∃ P : Nat → Dl.Env → G → Prop, ∀ j ρ g, P j ρ g ↔ ∃ (rr : G) (refs : List Nat) (v2 v3 : Option W), ρ = [some (.tup (nodes.map nodeW)), some (.ref p), v2, v3] ∧ g = hp z rr ∧ Ext r rr ∧ At rr p (.lst (refs.map W.ref)) ∧ refs.length = j ∧ ∀ (i q : Nat) (l : List Int), refs[i]? = some q → (leadL nodes)[i]? = some l → At rr q (.lst (l.map W.int)) ∧ p < q := ⟨_, fun _ _ _ => Iff.rfl⟩
  refine forI_To (P := P) ((hP _ _ _).mpr ⟨ra, [], none, none, rfl, rfl, ea, a0, rfl, by simp⟩) ?_ ?_
  · intro j ρ g hj p0
    obtain ⟨rr, refs, v2, v3, rfl, rfl, er, a0, hlen, hr⟩ := (hP _ _ _).mp p0
    have hjn : j < nodes.length := by simpa using hj
    have hjl : (refs.map W.ref).length < lim := by rw [lim_nat]; simp; omega
    refine ⟨_, rfl, ?_⟩
    have nx : ∀ {rX : G} {q : Nat}, Ext rr rX → At rX q (.lst (nodes[j].2.to.map W.int)) → rr.length + 2 ≤ q → ∀ {v3}, P (j + 1) [some (.tup (nodes.map nodeW)), some (.ref p), some (nodeW nodes[j]), v3] (hp z (rX.set (p - 2) (.lst (refs.map W.ref ++ [.ref q])))) := by
      intro rX q ex aq hq v3
      have := a0.lt
      refine (hP _ _ _).mpr ⟨_, refs ++ [q], _, v3, rfl, rfl, (er.trans ex).set (by omega), ?_, by simp [hlen], fun i q2 l h1 h2 => ?_⟩
      · have := (a0.ext ex).set_self (o' := .lst (refs.map W.ref ++ [.ref q]))
        simpa using this
      · rcases Nat.lt_or_ge i refs.length with h | h
        · rw [List.getElem?_append_left h] at h1
          obtain ⟨b1, b2⟩ := hr i q2 l h1 h2
          exact ⟨(b1.ext ex).set_ne (by omega) (by have := a0.1; omega), b2⟩
        · have hi : i = refs.length := by
            have := (List.getElem?_eq_some_iff.mp h1).1
            simp at this; omega
          subst hi
          simp at h1
          subst h1
          simp only [leadL, List.getElem?_map, hlen, List.getElem?_eq_getElem hjn] at h2
          cases h2
          exact ⟨aq.set_ne (by omega) (by have := a0.1; omega), by omega⟩
    have ap : ∀ {rX : G} {q : Nat}, Ext rr rX → M.runL .append p [.ref q] (hp z rX) = .ok .non (hp z (rX.set (p - 2) (.lst (refs.map W.ref ++ [.ref q])))) := fun ex => (a0.ext ex).append hjl
    have ap' : ∀ {y : G} {q : Nat}, M.runL .append p [.ref q] (hp z (rr ++ y)) = .ok .non (hp z ((rr ++ y).set (p - 2) (.lst (refs.map W.ref ++ [.ref q])))) := ap .app
    have u0 : ∀ {y : G}, (hp z (rr ++ y))[p]? = _ := a0.get'
    rw [List.getElem_map]
    cases he : nodes[j].2 with
    | exit =>
      have := nx (rX := rr ++ [.lst []]) (q := rr.length + 2) .app (by rw [he]; exact At.new) (Nat.le_refl _) (v3 := some End.exit.w)
      simp only [nodeW, he, End.w] at this
      exists Lleads_0, Lleads_1f0, Lleads_1f1a0, Lleads_1f1a_t0, Lleads_1f1b0a0, Lleads_1f1b0a_t0, Lleads_1f1b0b0, Lleads_1f1b0b_t0, Lleads_1f1b0, Lleads_1f1b_t0, Lleads_1f1, Lleads_1f_t1, Lleads_1f_t0, Lleads_1, Lleads_2, Lleads_t2, Lleads_t1, Lleads_t0, nodeW, he, End.w, a0.get, ap'
      exact this
    | jump t =>
      have := nx (rX := rr ++ [.lst [.int t]]) (q := rr.length + 2) .app (by rw [he]; exact At.new) (Nat.le_refl _) (v3 := some (End.jump t).w)
      simp only [nodeW, he, End.w] at this
      exists Lleads_0, Lleads_1f0, Lleads_1f1a0, Lleads_1f1a_t0, Lleads_1f1b0a0, Lleads_1f1b0a_t0, Lleads_1f1b0b0, Lleads_1f1b0b_t0, Lleads_1f1b0, Lleads_1f1b_t0, Lleads_1f1, Lleads_1f_t1, Lleads_1f_t0, Lleads_1, Lleads_2, Lleads_t2, Lleads_t1, Lleads_t0, nodeW, he, End.w, a0.get, ap'
      exact this
    | branch rg a b =>
      by_cases hab : a = b
      · subst hab
        have := nx (rX := rr ++ [.lst [.int a], .lst [.int a], .lst [], .lst [.int a]]) (q := rr.length + 5) .app (by rw [he]; exact ⟨by omega, by simp [End.to]⟩) (by omega) (v3 := some (End.branch rg a a).w)
        simp only [nodeW, he, End.w] at this
        exists Lleads_0, Lleads_1f0, Lleads_1f1a0, Lleads_1f1a_t0, Lleads_1f1b0a0, Lleads_1f1b0a_t0, Lleads_1f1b0b0, Lleads_1f1b0b_t0, Lleads_1f1b0, Lleads_1f1b_t0, Lleads_1f1, Lleads_1f_t1, Lleads_1f_t0, Lleads_1, Lleads_2, Lleads_t2, Lleads_t1, Lleads_t0, nodeW, he, End.w, a0.get, ap'
        exact this
      · have := nx (rX := rr ++ [.lst [.int a], .lst [.int b], .lst [.int b], .lst [.int a, .int b]]) (q := rr.length + 5) .app (by rw [he]; exact ⟨by omega, by simp [End.to, hab]⟩) (by omega) (v3 := some (End.branch rg a b).w)
        simp only [nodeW, he, End.w] at this
        exists Lleads_0, Lleads_1f0, Lleads_1f1a0, Lleads_1f1a_t0, Lleads_1f1b0a0, Lleads_1f1b0a_t0, Lleads_1f1b0b0, Lleads_1f1b0b_t0, Lleads_1f1b0, Lleads_1f1b_t0, Lleads_1f1, Lleads_1f_t1, Lleads_1f_t0, Lleads_1, Lleads_2, Lleads_t2, Lleads_t1, Lleads_t0, nodeW, he, End.w, a0.get, ap', hab
        exact this
  · intro ρ g p0
    obtain ⟨rr, refs, v2, v3, rfl, rfl, er, a0, hlen, hr⟩ := (hP _ _ _).mp p0
    exists Lleads_t2, Lleads_2
    rw [gc_keep (by simp; omega)]
    refine H p refs rr er ⟨a0, by rw [hlen, hn]; simp, fun i q l h1 h2 => ?_, by omega⟩
    obtain ⟨b1, b2⟩ := hr i q l h1 h2
    exact ⟨b1, by omega⟩

end Kx
namespace Kx
open Dl PySem
local macro_rules
  | `(tactic| exists $es,*) => `(tactic| simp [ev, evl, tst, its, src, ex, Tg.putS, Tg.put, $[$es:term],*])
/-! ### ways -/
/-- reached from S along E without a -/
inductive Rch (E : Nat → Nat → Prop) (S : Nat → Prop) (a : Int) : Nat → Prop
  | st {v : Nat} : S v → (v : Int) ≠ a → Rch E S a v
  | go {u v : Nat} : Rch E S a u → E u v → (v : Int) ≠ a → Rch E S a v
section
variable {E : Nat → Nat → Prop} {S : Nat → Prop}
theorem Rch.ne {a : Int} {v : Nat} (h : Rch E S a v) : (v : Int) ≠ a := by cases h <;> assumption
theorem Rch.all {a : Int} {v : Nat} (h : Rch E S a v) : Rch E S (-1) v := by
  induction h with
  | st s _ => exact .st s (by omega)
  | go _ e _ ih => exact .go ih e (by omega)
theorem Rch.or {a c : Nat} (hn : a ≠ c) (h1 : Rch E S a c) (h2 : Rch E S c a) {v : Nat} (h : Rch E S (-1) v) : Rch E S a v ∨ Rch E S c v := by
  induction h with
  | @st v s _ =>
    by_cases e : v = a
    · exact .inr (.st s (by omega))
    · exact .inl (.st s (by omega))
  | @go u v _ e _ ih =>
    by_cases ea : v = a
    · subst ea; exact .inr h2
    · by_cases ec : v = c
      · subst ec; exact .inl h1
      · rcases ih with ih | ih
        · exact .inl (.go ih e (by omega))
        · exact .inr (.go ih e (by omega))
theorem Rch.trans {x : Int} {a c : Nat} (h : Rch E S x c) (n : ¬ Rch E S x a) : Rch E S a c := by
  induction h with
  | @st v s nx =>
    refine .st s fun e => n ?_
    have : v = a := by omega
    subst this
    exact .st s nx
  | @go u v hu e nx ih =>
    refine .go ih e fun ee => n ?_
    have : v = a := by omega
    subst this
    exact .go hu e nx
theorem Rch.anti {a c : Nat} (hn : a ≠ c) (h : Rch E S (-1) a) : Rch E S c a ∨ Rch E S a c := by
  have key : ∀ v, Rch E S (-1) v → Rch E S c a ∨ Rch E S a c ∨ (Rch E S a v ∧ Rch E S c v) := by
    intro v h
    induction h with
    | @st v s _ =>
      by_cases ea : v = a
      · subst ea; exact .inl (.st s (by omega))
      · by_cases ec : v = c
        · subst ec; exact .inr (.inl (.st s (by omega)))
        · exact .inr (.inr ⟨.st s (by omega), .st s (by omega)⟩)
    | @go u v _ e _ ih =>
      rcases ih with ih | ih | ⟨i1, i2⟩
      · exact .inl ih
      · exact .inr (.inl ih)
      · by_cases ea : v = a
        · subst ea; exact .inl (.go i2 e (by omega))
        · by_cases ec : v = c
          · subst ec; exact .inr (.inl (.go i1 e (by omega)))
          · exact .inr (.inr ⟨.go i1 e (by omega), .go i2 e (by omega)⟩)
  rcases key a h with h | h | ⟨h, _⟩
  · exact .inl h
  · exact .inr h
  · exact absurd rfl h.ne
/-! ### lists of nodes -/
theorem len_sub : ∀ {a b : List Nat}, a.Nodup → (∀ x ∈ a, x ∈ b) → a.length ≤ b.length
  | [], _, _, _ => Nat.zero_le _
  | x :: r, b, hn, h => by
    rw [List.nodup_cons] at hn
    have hx := h x List.mem_cons_self
    have := len_sub (a := r) (b := b.erase x) hn.2 fun y hy => (List.mem_erase_of_ne (by rintro rfl; exact hn.1 hy)).mpr (h y (List.mem_cons_of_mem _ hy))
    rw [List.length_erase_of_mem hx] at this
    have := List.length_pos_of_mem hx
    simp only [List.length_cons]
    omega
theorem sub_of_len {a b : List Nat} (hn : a.Nodup) (hs : ∀ x ∈ a, x ∈ b) (hb : b.Nodup) (hl : b.length ≤ a.length) : ∀ x ∈ b, x ∈ a := by
  intro x hx
  by_cases h : x ∈ a
  · exact h
  · have := len_sub (a := x :: a) (b := b) (List.nodup_cons.mpr ⟨h, hn⟩) (by intro y hy; rcases List.mem_cons.mp hy with rfl | hy; exact hx; exact hs y hy)
    simp only [List.length_cons] at this
    omega
theorem len_bd {n : Nat} {a : List Nat} (hn : a.Nodup) (h : ∀ x ∈ a, x < n) : a.length ≤ n := by
  have := len_sub (b := List.range n) hn fun x hx => List.mem_range.mpr (h x hx)
  simpa using this
/-! ### the sets -/
/-- what stands for each node: all that lie on all ways to it -/
structure Sets (E : Nat → Nat → Prop) (S : Nat → Prop) (n : Nat) (F : Nat → Option (List Nat)) : Prop where
  snd : ∀ v k, F v = some k → ∀ a : Nat, a ∉ k → Rch E S a v
  cpl : ∀ (a : Int) v, Rch E S a v → ∃ k, F v = some k ∧ ∀ x ∈ k, (x : Int) ≠ a
  nd : ∀ v k, F v = some k → k.Nodup
  bd : ∀ v k, F v = some k → ∀ x ∈ k, x < n
variable {n : Nat} {F : Nat → Option (List Nat)}
theorem Sets.mem (h : Sets E S n F) {v a : Nat} {k : List Nat} (hk : F v = some k) : a ∈ k ↔ ¬ Rch E S a v := by
  constructor
  · intro ha hr
    obtain ⟨k', e, h'⟩ := h.cpl a v hr
    rw [hk] at e
    cases e
    exact h' a ha rfl
  · intro hr
    by_cases ha : a ∈ k
    · exact ha
    · exact absurd (h.snd v k hk a ha) hr
theorem Sets.self (h : Sets E S n F) {v : Nat} {k : List Nat} (hk : F v = some k) : v ∈ k := (h.mem hk).mpr fun r => r.ne rfl
theorem Sets.reach (h : Sets E S n F) {v : Nat} {k : List Nat} (hk : F v = some k) : Rch E S (-1) v := by
  have : n ∉ k := fun hm => by have := h.bd v k hk n hm; omega
  exact (h.snd v k hk n this).all
theorem Sets.up (h : Sets E S n F) {v a : Nat} {k : List Nat} (hk : F v = some k) (ha : a ∈ k) : ∃ ka, F a = some ka := by
  by_cases hr : Rch E S (-1) a
  · obtain ⟨ka, e, _⟩ := h.cpl _ _ hr
    exact ⟨ka, e⟩
  · exact absurd ((h.reach hk).trans hr) ((h.mem hk).mp ha)
def szF (F : Nat → Option (List Nat)) (v : Nat) : Nat := ((F v).getD []).length
theorem Sets.lt (h : Sets E S n F) {a c : Nat} {kc : List Nat} (hc : F c = some kc) (ha : a ∈ kc) (hn : a ≠ c) : szF F a < szF F c := by
  obtain ⟨ka, hka⟩ := h.up hc ha
  have h1 := (h.mem hc).mp ha
  have h2 : c ∉ ka := by
    rcases Rch.anti hn (h.reach hka) with r | r
    · exact fun hm => (h.mem hka).mp hm r
    · exact absurd r h1
  have := len_sub (a := c :: ka) (b := kc) (List.nodup_cons.mpr ⟨h2, h.nd _ _ hka⟩) fun x hx => by
    rcases List.mem_cons.mp hx with rfl | hx
    · exact h.self hc
    · refine (h.mem hc).mpr fun r => h1 ?_
      exact r.trans ((h.mem hka).mp hx)
  simp only [List.length_cons] at this
  simp only [szF, hka, hc, Option.getD_some]
  omega
/-- two on all ways to one node -/
theorem Sets.chain (h : Sets E S n F) {a c b : Nat} {k ka kc : List Nat} (hk : F b = some k) (ha : a ∈ k) (hc : c ∈ k) (hn : a ≠ c) (hka : F a = some ka) (hkc : F c = some kc) : a ∈ kc ∨ c ∈ ka := by
  by_cases h1 : Rch E S a c
  · by_cases h2 : Rch E S c a
    · rcases Rch.or hn h1 h2 (h.reach hk) with r | r
      · exact absurd r ((h.mem hk).mp ha)
      · exact absurd r ((h.mem hk).mp hc)
    · exact .inr ((h.mem hka).mpr h2)
  · exact .inl ((h.mem hkc).mpr h1)
/-! ### the immediate one -/
/-- as the program finds it -/
def immS (sz : Nat → Nat) (b : Nat) : List Nat → Int → Int
  | [], m => m
  | x :: r, m => immS sz b r (if x ≠ b ∧ (m < 0 ∨ sz m.toNat < sz x) then x else m)
theorem immS_ok (sz : Nat → Nat) (b : Nat) : ∀ (r l : List Nat) (m : Int), ((m = -1 ∧ ∀ x ∈ l, x = b) ∨ ∃ x ∈ l, x ≠ b ∧ m = x ∧ ∀ y ∈ l, y ≠ b → sz y ≤ sz x) →
    ((immS sz b r m = -1 ∧ ∀ x ∈ l ++ r, x = b) ∨ ∃ x ∈ l ++ r, x ≠ b ∧ immS sz b r m = x ∧ ∀ y ∈ l ++ r, y ≠ b → sz y ≤ sz x)
  | [], l, m, h => by simpa [immS] using h
  | x :: r, l, m, h => by
    have := immS_ok sz b r (l ++ [x]) (if x ≠ b ∧ (m < 0 ∨ sz m.toNat < sz x) then x else m) ?_
    · simpa [immS] using this
    · by_cases hx : x = b
      · subst hx
        rw [if_neg (by simp)]
        rcases h with ⟨h1, h2⟩ | ⟨y, h1, h2, h3, h4⟩
        · refine .inl ⟨h1, fun y hy => ?_⟩
          rcases List.mem_append.mp hy with hy | hy
          · exact h2 y hy
          · simpa using hy
        · refine .inr ⟨y, List.mem_append_left _ h1, h2, h3, fun z hz hzb => ?_⟩
          rcases List.mem_append.mp hz with hz | hz
          · exact h4 z hz hzb
          · exact absurd (by simpa using hz) hzb
      · rcases h with ⟨h1, h2⟩ | ⟨y, h1, h2, h3, h4⟩
        · rw [if_pos ⟨hx, .inl (by omega)⟩]
          refine .inr ⟨x, by simp, hx, rfl, fun z hz hzb => ?_⟩
          rcases List.mem_append.mp hz with hz | hz
          · exact absurd (h2 z hz) hzb
          · have : z = x := by simpa using hz
            rw [this]; exact Nat.le_refl _
        · subst h3
          by_cases hs : sz y < sz x
          · rw [if_pos ⟨hx, .inr (by simpa using hs)⟩]
            refine .inr ⟨x, by simp, hx, rfl, fun z hz hzb => ?_⟩
            rcases List.mem_append.mp hz with hz | hz
            · have := h4 z hz hzb; omega
            · have : z = x := by simpa using hz
              rw [this]; exact Nat.le_refl _
          · rw [if_neg (by rintro ⟨_, h | h⟩; omega; exact hs (by simpa using h))]
            refine .inr ⟨y, List.mem_append_left _ h1, h2, rfl, fun z hz hzb => ?_⟩
            rcases List.mem_append.mp hz with hz | hz
            · exact h4 z hz hzb
            · have : z = x := by simpa using hz
              rw [this]; omega
/-- as the law finds it: good says that all own ones dominate it -/
def immL (good : Nat → Bool) : List Nat → Int → Int
  | [], m => m
  | x :: r, m => immL good r (if good x = true then x else m)
theorem immL_ok (good : Nat → Bool) : ∀ (r l : List Nat) (m : Int), ((m = -1 ∧ ∀ x ∈ l, good x = false) ∨ ∃ x ∈ l, good x = true ∧ m = x) →
    ((immL good r m = -1 ∧ ∀ x ∈ l ++ r, good x = false) ∨ ∃ x ∈ l ++ r, good x = true ∧ immL good r m = x)
  | [], l, m, h => by simpa [immL] using h
  | x :: r, l, m, h => by
    have := immL_ok good r (l ++ [x]) (if good x = true then x else m) ?_
    · simpa [immL] using this
    · by_cases hx : good x = true
      · rw [if_pos hx]
        exact .inr ⟨x, by simp, hx, rfl⟩
      · rw [if_neg hx]
        rcases h with ⟨h1, h2⟩ | ⟨y, h1, h2, h3⟩
        · refine .inl ⟨h1, fun y hy => ?_⟩
          rcases List.mem_append.mp hy with hy | hy
          · exact h2 y hy
          · have : y = x := by simpa using hy
            rw [this]; simpa using hx
        · exact .inr ⟨y, List.mem_append_left _ h1, h2, h3⟩
/-- both find the same; k: the set of b or a part of it that has all own ones -/
theorem Sets.imm (h : Sets E S n F) {b : Nat} {k k' own : List Nat} {good : Nat → Bool} (hk : F b = some k) (hk' : ∀ x ∈ k', x ∈ k) (ho : ∀ a, a ∈ own ↔ a ∈ k' ∧ a ≠ b)
    (hg : ∀ a ∈ own, good a = true ↔ ∀ c ∈ own, c = a ∨ ¬ Rch E S c a) : immS (szF F) b k' (-1) = immL good own (-1) := by
  have h1 := immS_ok (szF F) b k' [] (-1) (.inl ⟨rfl, by simp⟩)
  have h2 := immL_ok good own [] (-1) (.inl ⟨rfl, by simp⟩)
  simp only [List.nil_append] at h1 h2
  have gm : ∀ {x c : Nat}, x ∈ own → c ∈ own → c ≠ x → ¬ Rch E S c x → szF F c < szF F x := by
    intro x c hx hc hn hr
    obtain ⟨kx, hkx⟩ := h.up hk (hk' _ ((ho x).mp hx).1)
    exact h.lt hkx ((h.mem hkx).mpr hr) hn
  rcases h1 with ⟨a1, a2⟩ | ⟨x, x1, x2, x3, x4⟩
  · rcases h2 with ⟨b1, b2⟩ | ⟨y, y1, y2, y3⟩
    · rw [a1, b1]
    · have := (ho y).mp y1
      exact absurd (a2 y this.1) this.2
  · have hx := (ho x).mpr ⟨x1, x2⟩
    have gx : good x = true := (hg x hx).mpr fun c hc => by
      by_cases e : c = x
      · exact .inl e
      · refine .inr fun r => ?_
        have hco := (ho c).mp hc
        obtain ⟨kx, hkx⟩ := h.up hk (hk' _ x1)
        obtain ⟨kc, hkc⟩ := h.up hk (hk' _ hco.1)
        rcases h.chain hk (hk' _ hco.1) (hk' _ x1) e hkc hkx with m | m
        · exact (h.mem hkx).mp m r
        · have := h.lt hkc m (fun e2 => e e2.symm)
          have := x4 c hco.1 hco.2
          omega
    rcases h2 with ⟨b1, b2⟩ | ⟨y, y1, y2, y3⟩
    · rw [b2 x hx] at gx; cases gx
    · rw [x3, y3]
      by_cases e : x = y
      · rw [e]
      · rcases (hg y y1).mp y2 x hx with e2 | r
        · exact absurd e2 e
        · have := gm y1 hx e r
          have hyo := (ho y).mp y1
          have := x4 y hyo.1 hyo.2
          omega
end
/-! ### the sets by rounds -/
section
variable {E : Nat → Nat → Prop} {S : Nat → Prop} {n root : Nat}
/-- the state of the rounds; pr v: those before v -/
structure Rnd (E : Nat → Nat → Prop) (pr : Nat → List Nat) (n root : Nat) (F : Nat → Option (List Nat)) : Prop where
  rt : F root = some [root]
  snd : ∀ v k, F v = some k → ∀ a : Nat, a ∉ k → Rch E (· = root) a v
  nd : ∀ v k, F v = some k → k.Nodup
  bd : ∀ v k, F v = some k → ∀ x ∈ k, x < n
  from_ : ∀ v k, v ≠ root → F v = some k → ∃ u ∈ pr v, ∃ ku, F u = some ku
  shr : ∀ v k, v ≠ root → F v = some k → v ∈ k ∧ ∀ x, (∀ u ∈ pr v, ∀ ku, F u = some ku → x ∈ ku) → x ∈ k
/-- c is what v gets -/
structure Com (pr : Nat → List Nat) (F : Nat → Option (List Nat)) (v : Nat) (c : List Nat) : Prop where
  ex : ∃ u ∈ pr v, ∃ ku, F u = some ku
  mem : ∀ x, x ∈ c ↔ x = v ∨ ∀ u ∈ pr v, ∀ ku, F u = some ku → x ∈ ku
  nd : c.Nodup
variable {pr : Nat → List Nat} {F : Nat → Option (List Nat)}
def upF (F : Nat → Option (List Nat)) (v : Nat) (c : List Nat) : Nat → Option (List Nat) := fun w => if w = v then some c else F w
theorem Rnd.start (hr : root < n) : Rnd E pr n root (fun v => if v = root then some [root] else none) := by
  refine ⟨by simp, fun v k h a ha => ?_, fun v k h => ?_, fun v k h x hx => ?_, fun v k hv h => ?_, fun v k hv h => ?_⟩
  · by_cases e : v = root
    · subst e
      rw [if_pos rfl] at h
      cases h
      exact .st rfl (by simp at ha; omega)
    · rw [if_neg e] at h; cases h
  · by_cases e : v = root
    · rw [if_pos e] at h; cases h; simp
    · rw [if_neg e] at h; cases h
  · by_cases e : v = root
    · rw [if_pos e] at h; cases h; simp at hx; omega
    · rw [if_neg e] at h; cases h
  · rw [if_neg hv] at h; cases h
  · rw [if_neg hv] at h; cases h
theorem Rnd.sub (h : Rnd E pr n root F) {v : Nat} {c k : List Nat} (hv : v ≠ root) (hc : Com pr F v c) (hk : F v = some k) : ∀ x ∈ c, x ∈ k := by
  intro x hx
  obtain ⟨h1, h2⟩ := h.shr v k hv hk
  rcases (hc.mem x).mp hx with rfl | hx
  · exact h1
  · exact h2 x hx
theorem Rnd.step (h : Rnd E pr n root F) (hE : ∀ u v, u ∈ pr v → E u v) {v : Nat} {c : List Nat} (hv : v ≠ root) (hvn : v < n) (hc : Com pr F v c) : Rnd E pr n root (upF F v c) := by
  have le : ∀ u ku' , upF F v c u = some ku' → ∀ ku, F u = some ku → ∀ x ∈ ku', x ∈ ku := by
    intro u ku' h1 ku h2 x hx
    by_cases e : u = v
    · subst e
      simp only [upF, if_true] at h1
      cases h1
      exact h.sub hv hc h2 x hx
    · simp only [upF, if_neg e] at h1
      rw [h1] at h2; cases h2; exact hx
  have there : ∀ u ku, F u = some ku → ∃ ku', upF F v c u = some ku' := by
    intro u ku h1
    by_cases e : u = v
    · exact ⟨c, by simp [upF, e]⟩
    · exact ⟨ku, by simp [upF, e, h1]⟩
  have cbd : ∀ x ∈ c, x < n := fun x hx => by
    rcases (hc.mem x).mp hx with rfl | hx
    · exact hvn
    · obtain ⟨u, hu, ku, hku⟩ := hc.ex
      exact h.bd u ku hku x (hx u hu ku hku)
  refine ⟨by simp only [upF, if_neg (fun e => hv (Eq.symm e))]; exact h.rt, fun w k hw a ha => ?_, fun w k hw => ?_, fun w k hw => ?_, fun w k hwr hw => ?_, fun w k hwr hw => ?_⟩
  · by_cases e : w = v
    · subst e
      simp only [upF, if_true] at hw
      cases hw
      have h1 : a ≠ w := fun e => ha ((hc.mem a).mpr (.inl e))
      have h2 : ¬ ∀ u ∈ pr w, ∀ ku, F u = some ku → a ∈ ku := fun e => ha ((hc.mem a).mpr (.inr e))
      obtain ⟨u, h3⟩ := Classical.not_forall.mp h2
      obtain ⟨hu, h4⟩ := Classical.not_forall.mp h3
      obtain ⟨ku, h5⟩ := Classical.not_forall.mp h4
      obtain ⟨hku, h6⟩ := Classical.not_forall.mp h5
      exact .go (h.snd u ku hku a h6) (hE u w hu) (by omega)
    · simp only [upF, if_neg e] at hw
      exact h.snd w k hw a ha
  · by_cases e : w = v
    · subst e
      simp only [upF, if_true] at hw
      cases hw; exact hc.nd
    · simp only [upF, if_neg e] at hw
      exact h.nd w k hw
  · by_cases e : w = v
    · subst e
      simp only [upF, if_true] at hw
      cases hw; exact cbd
    · simp only [upF, if_neg e] at hw
      exact h.bd w k hw
  · have : ∃ u ∈ pr w, ∃ ku, F u = some ku := by
      by_cases e : w = v
      · subst e; exact hc.ex
      · simp only [upF, if_neg e] at hw
        exact h.from_ w k hwr hw
    obtain ⟨u, hu, ku, hku⟩ := this
    exact ⟨u, hu, there u ku hku⟩
  · have up : ∀ x, (∀ u ∈ pr w, ∀ ku, upF F v c u = some ku → x ∈ ku) → ∀ u ∈ pr w, ∀ ku, F u = some ku → x ∈ ku := by
      intro x hx u hu ku hku
      obtain ⟨ku', e'⟩ := there u ku hku
      exact le u ku' e' ku hku x (hx u hu ku' e')
    by_cases e : w = v
    · subst e
      simp only [upF, if_true] at hw
      cases hw
      exact ⟨(hc.mem w).mpr (.inl rfl), fun x hx => (hc.mem x).mpr (.inr (up x hx))⟩
    · simp only [upF, if_neg e] at hw
      obtain ⟨h1, h2⟩ := h.shr w k hwr hw
      exact ⟨h1, fun x hx => h2 x (up x hx)⟩
/-- nothing is to be done at v -/
def Still (pr : Nat → List Nat) (F : Nat → Option (List Nat)) (v : Nat) : Prop := (∃ u ∈ pr v, ∃ ku, F u = some ku) → ∃ k, F v = some k ∧ ∀ x ∈ k, x = v ∨ ∀ u ∈ pr v, ∀ ku, F u = some ku → x ∈ ku
theorem Rnd.still (h : Rnd E pr n root F) {v : Nat} {c k : List Nat} (hv : v ≠ root) (hc : Com pr F v c) (hk : F v = some k) (hl : k.length ≤ c.length) : Still pr F v := by
  intro _
  refine ⟨k, hk, fun x hx => (hc.mem x).mp ?_⟩
  exact sub_of_len hc.nd (h.sub hv hc hk) (h.nd v k hk) hl x hx
theorem Rnd.sets (h : Rnd E pr n root F) (hE : ∀ u v, E u v → u ∈ pr v ∧ v < n) (hs : ∀ v, v < n → v ≠ root → Still pr F v) : Sets E (· = root) n F := by
  refine ⟨h.snd, fun a v hr => ?_, h.nd, h.bd⟩
  induction hr with
  | @st v s na =>
    subst s
    refine ⟨[v], h.rt, fun x hx => ?_⟩
    have : x = v := by simpa using hx
    omega
  | @go u v hu e na ih =>
    obtain ⟨ku, hku, hn⟩ := ih
    by_cases ev : v = root
    · subst ev
      refine ⟨[v], h.rt, fun x hx => ?_⟩
      have : x = v := by simpa using hx
      omega
    · obtain ⟨e1, e2⟩ := hE u v e
      obtain ⟨k, hk, hm⟩ := hs v e2 ev ⟨u, e1, ku, hku⟩
      refine ⟨k, hk, fun x hx => ?_⟩
      rcases hm x hx with rfl | hm
      · exact na
      · exact hn x (hm u e1 ku hku)
/-- how much is still to be taken away -/
def muF (n : Nat) (F : Nat → Option (List Nat)) : Nat → Nat
  | 0 => 0
  | m + 1 => muF n F m + match F m with | none => n + 1 | some k => k.length
theorem muF_le {F : Nat → Option (List Nat)} (hl : ∀ v k, F v = some k → k.length ≤ n) : ∀ m, muF n F m ≤ m * (n + 1)
  | 0 => by simp [muF]
  | m + 1 => by
    have := muF_le hl m
    simp only [muF, Nat.succ_mul]
    cases h : F m with
    | none => simp only; omega
    | some k => have := hl m k h; simp only; omega
theorem muF_up {F : Nat → Option (List Nat)} {v : Nat} {c : List Nat} (hc : c.length ≤ n) (hl : ∀ k, F v = some k → c.length < k.length) : ∀ m, muF n (upF F v c) m + (if v < m then 1 else 0) ≤ muF n F m
  | 0 => by simp [muF]
  | m + 1 => by
    have := muF_up hc hl m
    simp only [muF]
    by_cases e : m = v
    · subst e
      rw [if_neg (by omega)] at this
      rw [if_pos (by omega)]
      simp only [upF, if_true]
      cases h : F m with
      | none => simp only; omega
      | some k => have := hl k h; simp only; omega
    · simp only [upF, if_neg e]
      by_cases e2 : v < m
      · rw [if_pos e2] at this
        rw [if_pos (by omega)]
        omega
      · rw [if_neg e2] at this
        rw [if_neg (by omega)]
        omega
end

end Kx
namespace Kx
open Dl PySem
local macro_rules
  | `(tactic| exists $es,*) => `(tactic| simp [ev, evl, tst, its, src, ex, Tg.putS, Tg.put, $[$es:term],*])
/-! ### dicts of nodes -/
def kv (k : List Nat) : List (W × W) := k.map fun (x : Nat) => (W.int x, W.bl true)
theorem weq_nat (a v : Nat) : weq (W.int a) (W.int v) = decide (a = v) := by
  by_cases e : a = v
  · subst e; simp [weq]
  · have : ¬ (a : Int) = v := by omega
    simp [weq, e, this]
theorem kv_get (v : Nat) : ∀ k : List Nat, getD (kv k) (.int v) = if v ∈ k then some (.bl true) else none
  | [] => rfl
  | a :: r => by
    have ih := kv_get v r
    simp only [kv] at ih
    simp only [kv, List.map_cons, getD, weq_nat, ih]
    by_cases e : a = v
    · subst e; simp
    · simp [e, show ¬ v = a from fun h => e h.symm]
theorem kv_put (k : List Nat) (v : Nat) : putD (kv k) (.int v) (.bl true) = kv (if v ∈ k then k else k ++ [v]) := by
  have h1 : ((kv k).any fun x => weq x.1 (.int v)) = decide (v ∈ k) := by
    rw [Bool.eq_iff_iff, List.any_eq_true, decide_eq_true_eq]
    constructor
    · rintro ⟨x, hx, e⟩
      obtain ⟨a, ha, rfl⟩ := List.mem_map.mp hx
      rw [weq_nat, decide_eq_true_eq] at e
      subst e
      exact ha
    · intro hv
      exact ⟨_, List.mem_map_of_mem hv, by simp [weq_nat]⟩
  unfold putD
  rw [h1]
  by_cases e : v ∈ k
  · rw [if_pos (by simpa using e), if_pos e]
    unfold kv
    rw [List.map_map]
    apply List.map_congr_left
    intro x _
    simp only [Function.comp]
    split <;> rfl
  · rw [if_neg (by simpa using e), if_neg e]
    simp [kv]
theorem in_kv {g : G} {q v : Nat} {k : List Nat} (h : g[q]? = some (.dct (kv k))) : inW (.int v) (.ref q) g = some (decide (v ∈ k)) := by
  simp only [inW, h, fits, if_true, kv_get]
  by_cases e : v ∈ k <;> simp [e]
theorem in_fz {g : G} {q v : Nat} {k : List Nat} (h : g[q]? = some (.fz (kv k))) : inW (.int v) (.ref q) g = some (decide (v ∈ k)) := by
  simp only [inW, h, fits, if_true, kv_get]
  by_cases e : v ∈ k <;> simp [e]
theorem At.pop {r : G} {z : SS} {p : Nat} {L : List Int} {x : Int} (h : At r p (.lst ((L ++ [x]).map W.int))) : M.runL .pop0 p [] (hp z r) = .ok (.int x) (hp z (r.set (p - 2) (.lst (L.map W.int)))) := by
  have e : ((L ++ [x]).map W.int)[((L ++ [x]).map W.int).length - 1]? = some (.int x) := by simp
  simp only [M.runL, h.get, e, h.put]
  simp
theorem At.extend {r : G} {z : SS} {p q : Nat} {xs ys : List W} (h : At r p (.lst xs)) (k : At r q (.lst ys)) (hl : xs.length + ys.length ≤ lim) : M.runL .extend p [.ref q] (hp z r) = .ok .non (hp z (r.set (p - 2) (.lst (xs ++ ys)))) := by
  simp only [M.runL, h.get, k.get, if_pos hl, h.put]
abbrev edge (ls : List (List Int)) (u v : Nat) : Prop := (v : Int) ∈ (ls[u]?.getD [])
/-- the comprehension: those of a list that are not w -/
theorem comp_ne {call : CallF} {z : SS} {r : G} {q i j : Nat} {l : List Int} {w : Int} {ρ : Dl.Env} (h : At r q (.lst (l.map W.int))) (hl : l.length ≤ 1000) (hi : i < ρ.length) (hij : j ≠ i) (hw : ρ[j]? = some (some (.int w))) :
    compL (.nm i) (tst T call (.cmp .ne (.var i) (.var j))) (ev T call (.var i)) ρ (.live q) FUEL 0 (hp z r) = .ok ((l.filter fun v => decide (v ≠ w)).map W.int) (hp z r) := by
  have e : ∀ v : Int, (ρ.set i (some (.int v)))[i]? = some (some (.int v)) := fun v => List.getElem?_set_self hi
  have e2 : ∀ v : Int, (ρ.set i (some (.int v)))[j]? = some (some (.int w)) := fun v => by rw [List.getElem?_set_ne (fun e => hij e.symm)]; exact hw
  rw [compL_eq (P := fun g' => g' = hp z r) (ws := l.map W.int) (fun g' e => by rw [e]; exact h.get) ?_ ?_ (by simp [FUEL, lim_nat]; omega) rfl, List.drop_zero]
  · have hf := compV_filter (t := .nm i) (ρ := ρ) (c := tst T call (.cmp .ne (.var i) (.var j))) (el := ev T call (.var i)) (ws := l.map W.int) (f := id) (q := fun x => match x with | .int v => decide (v ≠ w) | _ => false) (g := hp z r) (fun x hx => by
      obtain ⟨v, hv, rfl⟩ := List.mem_map.mp hx
      refine ⟨_, rfl, ?_, fun _ => ?_⟩
      · exists e, e2, R.of
      · exists e)
    rw [hf, List.map_id, List.filter_map]
    rfl
  · rintro x hx g' ρ1 rfl e1 k g1 e3
    obtain ⟨v, hv, rfl⟩ := List.mem_map.mp hx
    cases e1
    simp [tst, ev, e, e2, R.of] at e3
    exact e3.2.symm
  · rintro x hx g' ρ1 rfl e1 k g1 e3
    obtain ⟨v, hv, rfl⟩ := List.mem_map.mp hx
    cases e1
    simp [ev, e] at e3
    exact e3.2.symm
theorem lreached_to {k lo p ps : Nat} {z : SS} {r : G} {refs : List Nat} {ls : List (List Int)} {st : List Int} {w : Int} {Q : W → G → Prop} {X : Nat → G → Prop} (hn : ls.length ≤ 100) (hL : LL r lo p refs ls) (h2 : ∀ l ∈ ls, l.length ≤ 2 ∧ ∀ v ∈ l, 0 ≤ v ∧ v < ls.length)
    (hs : At r ps (.lst (st.map W.int))) (hst : ∀ v ∈ st, 0 ≤ v ∧ v < ls.length) (hsl : st.length ≤ 100)
    (H : ∀ pd keys r', Ext r r' → r.length + 2 ≤ pd → At r' pd (.dct (kv keys)) → keys.Nodup → (∀ v, v ∈ keys ↔ Rch (edge ls) (fun v => (v : Int) ∈ st) w v) → (∀ v ∈ keys, v < ls.length) → Q (.ref pd) (hp z r')) :
    (callN T (k + 1) 17 [.ref p, .ref ps, .int w] (hp z r)).To Q X := by
  refine call_To at17 rfl ?_
  have hc := comp_ne (call := callN T k) (z := z) (i := 5) (j := 2) (w := w) (ρ := [some (.ref p), some (.ref ps), some (.int w), some (.ref (r.length + 2)), none, none, none]) (hs.ext (r' := r ++ [.dct []]) .app) (by omega) (by simp) (by omega) rfl
  exists Lreached_t0, Lreached_0, startE, pairW
  generalize er : r ++ [_] = ra at hc ⊢
  have ea : Ext r ra := er ▸ .app
  have af : At ra (r.length + 2) (.dct (kv [])) := er ▸ At.new
  exists Lreached_t1, Lreached_1, (hs.ext ea).get, wipeE, hc
  generalize hst0 : st.filter (fun v => !decide (v = w)) = s0
  have hs0 : ∀ v, v ∈ s0 ↔ v ∈ st ∧ v ≠ w := by intro v; rw [← hst0]; simp
  have hs0l : s0.length ≤ 100 := by rw [← hst0]; have := List.length_filter_le (fun v => !decide (v = w)) st; omega
  generalize er2 : ra ++ [_] = rb
  have eb : Ext ra rb := er2 ▸ .app
  have aw : At rb (ra.length + 2) (.lst (s0.map W.int)) := er2 ▸ At.new
  have af := af.ext eb
  have hra := ea.le
  generalize hpf : r.length + 2 = pf at af H ⊢
  generalize hpw : ra.length + 2 = pw at aw ⊢
  have hfw : pf < pw := by have := (er ▸ (by simp) : ra.length = r.length + 1); omega
  have hR := ea.trans eb
  clear er er2 hc ea eb
  obtain ⟨P, hP⟩ : ∃ P : Nat → Dl.Env → G → Prop, ∀ m ρ g, P m ρ g ↔ ∃ (rr : G) (keys : List Nat) (wt : List Int) (v5 : Option W), ρ = [some (.ref p), some (.ref ps), some (.int w), some (.ref pf), some (.ref pw), v5, none] ∧ g = hp z rr ∧ Ext r rr ∧ At rr pf (.dct (kv keys)) ∧ At rr pw (.lst (wt.map W.int)) ∧ keys.Nodup ∧ (∀ v ∈ keys, v < ls.length) ∧ (∀ v ∈ wt, 0 ≤ v ∧ v < ls.length ∧ v ≠ w) ∧
      (∀ v : Nat, v ∈ keys ∨ (v : Int) ∈ wt → Rch (edge ls) (fun v => (v : Int) ∈ st) w v) ∧ (∀ v : Nat, (v : Int) ∈ st → (v : Int) ≠ w → v ∈ keys ∨ (v : Int) ∈ wt) ∧ (∀ u ∈ keys, ∀ v : Nat, edge ls u v → (v : Int) ≠ w → v ∈ keys ∨ (v : Int) ∈ wt) ∧ wt.length + 3 * (ls.length - keys.length) = m ∧ m ≤ 400 := ⟨_, fun _ _ _ => Iff.rfl⟩
  exists Lreached_t2, Lreached_2
  refine whl_To (P := P) (m := s0.length + 3 * ls.length) ((hP _ _ _).mpr ⟨rb, [], s0, none, rfl, rfl, hR, af, aw, by simp, by simp, fun v hv => ⟨(hst v ((hs0 v).mp hv).1).1, (hst v ((hs0 v).mp hv).1).2, ((hs0 v).mp hv).2⟩, ?_, ?_, by simp, by simp, by omega⟩) (by simp [FUEL, lim_nat]; omega) ?_
  · rintro v (hv | hv)
    · cases hv
    · exact .st ((hs0 v).mp hv).1 ((hs0 v).mp hv).2
  · exact fun v h1 h2 => .inr ((hs0 v).mpr ⟨h1, h2⟩)
  · intro m ρ g p0
    obtain ⟨rr, keys, wt, v5, rfl, rfl, er, af, aw, hnd, hkb, hwt, hso, hst1, hcl, hm, hm4⟩ := (hP _ _ _).mp p0
    rcases List.eq_nil_or_concat wt with rfl | ⟨L, x, ex⟩
    · exists aw.get, Lreached_t3, Lreached_3
      rw [gc_keep (by simp; omega)]
      refine H pf keys rr er (by omega) af hnd (fun v => ⟨fun hv => hso v (.inl hv), fun hv => ?_⟩) hkb
      induction hv with
      | st s nw => simpa using hst1 _ s nw
      | go hu e nw ih => simpa using hcl _ ih _ e nw
    · rw [List.concat_eq_append] at ex
      subst ex
      obtain ⟨x0, x1, x2⟩ := hwt x (by simp)
      obtain ⟨v, rfl⟩ := Int.eq_ofNat_of_zero_le x0
      have hvn : v < ls.length := by omega
      have haw := At.pop (z := z) aw
      have hf2 := af.lt
      have hw2 := aw.lt
      have er1 := er.set (i := pw - 2) (o := .lst (L.map W.int)) (by omega)
      have af1 := af.set_ne (q := pw) (o' := .lst (L.map W.int)) (by omega) (by omega)
      have aw1 := aw.set_self (o' := .lst (L.map W.int))
      have hpos : (0 : Int) < (L.length : Int) + 1 := by omega
      have hin := in_kv (v := v) (af1.get (z := z))
      exists aw.get, hpos, Lreached_2w_t0, Lreached_2w0, haw, Lreached_2w_t1, Lreached_2w1, hin, Cop.run
      generalize rr.set (pw - 2) _ = rs at er1 af1 aw1 hin ⊢
      by_cases hv : v ∈ keys
      · exists hv
        refine ⟨_, ?_, (hP _ _ _).mpr ⟨rs, keys, L, _, rfl, rfl, er1, af1, aw1, hnd, hkb, fun y hy => hwt y (by simp [hy]), ?_, ?_, ?_, rfl, ?_⟩⟩
        · simp at hm; omega
        · rintro y (hy | hy)
          · exact hso y (.inl hy)
          · exact hso y (.inr (by simp [hy]))
        · intro y h1 h2
          rcases hst1 y h1 h2 with h | h
          · exact .inl h
          · rcases List.mem_append.mp h with h | h
            · exact .inr h
            · have : y = v := by have := List.mem_singleton.mp h; omega
              subst this; exact .inl hv
        · intro u hu y h1 h2
          rcases hcl u hu y h1 h2 with h | h
          · exact .inl h
          · rcases List.mem_append.mp h with h | h
            · exact .inr h
            · have : y = v := by have := List.mem_singleton.mp h; omega
              subst this; exact .inl hv
        · simp at hm; omega
      · have hve : ls[v]? = some ls[v] := List.getElem?_eq_getElem hvn
        obtain ⟨hl2, hlv⟩ := h2 _ (List.getElem_mem hvn)
        obtain ⟨q, hq, aq⟩ := (hL.ext er1).at hve
        have hkl := len_bd hnd hkb
        have hfit : (kv keys).length < lim := by rw [lim_nat]; simp [kv]; omega
        have hput : putD (kv keys) (.int v) (.bl true) = kv (keys ++ [v]) := by rw [kv_put, if_neg hv]
        have hlf := af1.lt
        have afs := af1.put (z := z) (o' := .dct (kv (keys ++ [v])))
        have er2 := er1.set (i := pf - 2) (o := .dct (kv (keys ++ [v]))) (by omega)
        have af2 := af1.set_self (o' := .dct (kv (keys ++ [v])))
        have aw2 := aw1.set_ne (q := pf) (o' := .dct (kv (keys ++ [v]))) (by omega) (by omega)
        have hb := h2
        exists hv, Lreached_2w1a_t0, Lreached_2w1a0, af1.get, fits, hfit, hput, afs
        generalize rs.set (pf - 2) _ = rt at er2 af2 aw2 ⊢
        have hL2 := hL.ext er2
        obtain ⟨q, hq, aq⟩ := hL2.at hve
        have hc := comp_ne (call := callN T k) (z := z) (i := 6) (j := 2) (w := w) (ρ := [some (.ref p), some (.ref ps), some (.int w), some (.ref pf), some (.ref pw), some (.int v), none]) aq (by omega) (by simp) (by omega) rfl
        exists Lreached_2w1a_t1, Lreached_2w1a1, aw2.get, hL2.top.get, atW_nat, hq, aq.get, wipeE, hc
        generalize hl0 : ls[v].filter (fun x => !decide (x = w)) = l0
        have hl0m : ∀ y, y ∈ l0 ↔ y ∈ ls[v] ∧ y ≠ w := by intro y; rw [← hl0]; simp
        have hl0l : l0.length ≤ 2 := by rw [← hl0]; have := List.length_filter_le (fun x => !decide (x = w)) ls[v]; omega
        generalize er3 : rt ++ [_] = ru
        have eu : Ext rt ru := er3 ▸ .app
        have aun : At ru (rt.length + 2) (.lst (l0.map W.int)) := er3 ▸ At.new
        have hru := aw2.lt
        have hLl : L.length ≤ 400 := by simp at hm; omega
        have hext := At.extend (z := z) (aw2.ext eu) aun (by rw [lim_nat]; simp; omega)
        exists hext
        have hnd2 : (keys ++ [v]).Nodup := List.nodup_append.mpr ⟨hnd, by simp, by
          intro a ha b hb e
          have : b = v := by simpa using hb
          subst this e
          exact hv ha⟩
        have hkb2 : ∀ a ∈ keys ++ [v], a < ls.length := by
          intro a ha
          rcases List.mem_append.mp ha with ha | ha
          · exact hkb a ha
          · have : a = v := by simpa using ha
            omega
        have hlen2 := len_bd hnd2 hkb2
        have hrv : Rch (edge ls) (fun v => (v : Int) ∈ st) w v := hso v (.inr (by simp))
        have hed : ∀ y : Nat, edge ls v y ↔ (y : Int) ∈ ls[v] := fun y => by simp [edge, hve]
        simp only [List.length_append, List.length_cons, List.length_nil] at hlen2
        refine ⟨L.length + l0.length + 3 * (ls.length - (keys.length + 1)), ?_, (hP _ _ _).mpr ⟨_, keys ++ [v], L ++ l0, _, rfl, rfl, (er2.trans eu).set (by omega), (af2.ext eu).set_ne (by omega) (by omega), ?_, hnd2, hkb2, ?_, ?_, ?_, ?_, by simp, ?_⟩⟩
        · simp at hm; omega
        · have := (aw2.ext eu).set_self (o' := .lst (L.map W.int ++ l0.map W.int))
          simpa using this
        · intro y hy
          rcases List.mem_append.mp hy with hy | hy
          · exact hwt y (by simp [hy])
          · obtain ⟨y1, y2⟩ := (hl0m y).mp hy
            exact ⟨(hlv y y1).1, (hlv y y1).2, y2⟩
        · rintro y (hy | hy)
          · rcases List.mem_append.mp hy with hy | hy
            · exact hso y (.inl hy)
            · have : y = v := by simpa using hy
              rw [this]; exact hrv
          · rcases List.mem_append.mp hy with hy | hy
            · exact hso y (.inr (by simp [hy]))
            · obtain ⟨y1, y2⟩ := (hl0m y).mp hy
              exact .go hrv ((hed y).mpr y1) y2
        · intro y h1 h2
          rcases hst1 y h1 h2 with h | h
          · exact .inl (List.mem_append_left _ h)
          · rcases List.mem_append.mp h with h | h
            · exact .inr (List.mem_append_left _ h)
            · have : y = v := by have := List.mem_singleton.mp h; omega
              subst this; exact .inl (by simp)
        · intro u hu y h1 h2
          rcases List.mem_append.mp hu with hu | hu
          · rcases hcl u hu y h1 h2 with h | h
            · exact .inl (List.mem_append_left _ h)
            · rcases List.mem_append.mp h with h | h
              · exact .inr (List.mem_append_left _ h)
              · have : y = v := by have := List.mem_singleton.mp h; omega
                subst this; exact .inl (by simp)
          · have : u = v := by simpa using hu
            subst this
            exact .inr (List.mem_append_right _ ((hl0m y).mpr ⟨(hed y).mp h1, h2⟩))
        · simp at hm; omega

end Kx
namespace Kx
open Dl PySem
local macro_rules
  | `(tactic| exists $es,*) => `(tactic| simp [ev, evl, tst, its, src, ex, Tg.putS, Tg.put, $[$es:term],*])
/-! ### dicts that may be locked -/
def Dk (g : G) (q : Nat) (k : List Nat) : Prop := At g q (.dct (kv k)) ∨ At g q (.fz (kv k))
theorem Dk.ext {g g' : G} {q : Nat} {k : List Nat} (h : Dk g q k) (e : Ext g g') : Dk g' q k := h.imp (·.ext e) (·.ext e)
theorem Dk.two {g : G} {q : Nat} {k : List Nat} (h : Dk g q k) : 2 ≤ q := by rcases h with h | h <;> exact h.1
theorem At.inj {g : G} {q : Nat} {o o' : Ob} (h : At g q o) (h' : At g q o') : o = o' := by
  have := h.2.symm.trans h'.2
  exact Option.some.inj this
theorem Dk.ne {g : G} {q p : Nat} {k : List Nat} {ws : List W} (h : Dk g q k) (a : At g p (.lst ws)) : q ≠ p := by
  rintro rfl
  rcases h with h | h
  · exact absurd (At.inj h a) (by intro e; cases e)
  · exact absurd (At.inj h a) (by intro e; cases e)
theorem Dk.set {g : G} {q p : Nat} {k : List Nat} {ws : List W} {o : Ob} (h : Dk g q k) (a : At g p (.lst ws)) : Dk (g.set (p - 2) o) q k := by
  have := h.ne a
  exact h.imp (·.set_ne (fun e => this e.symm) a.1) (·.set_ne (fun e => this e.symm) a.1)
theorem Dk.at_ {g : G} {q : Nat} {k : List Nat} (h : Dk g q k) : ∃ o, At g q o ∧ (o = .dct (kv k) ∨ o = .fz (kv k)) := by
  rcases h with h | h
  · exact ⟨_, h, .inl rfl⟩
  · exact ⟨_, h, .inr rfl⟩
def obK : Ob → List (W × W)
  | .dct k => k
  | .fz k => k
  | _ => []
theorem Dk.frz {g : G} {q q' : Nat} {k k' : List Nat} (h : Dk g q k) (h' : Dk g q' k') : Dk (g.set (q' - 2) (.fz (kv k'))) q k := by
  by_cases e : q' = q
  · subst e
    have : kv k = kv k' := by
      obtain ⟨o, a1, a2⟩ := h.at_
      obtain ⟨o', b1, b2⟩ := h'.at_
      have := At.inj a1 b1
      have e1 : obK o = kv k := by rcases a2 with rfl | rfl <;> rfl
      have e2 : obK o' = kv k' := by rcases b2 with rfl | rfl <;> rfl
      rw [← e1, ← e2, this]
    obtain ⟨o', b1, b2⟩ := h'.at_
    rw [← this]
    exact .inr b1.set_self
  · exact h.imp (·.set_ne e h'.two) (·.set_ne e h'.two)
theorem Dk.lst {g : G} {q p : Nat} {k : List Nat} {ws : List W} (h : Dk g q k) (a : At g p (.lst ws)) : At (g.set (q - 2) (.fz (kv k))) p (.lst ws) := a.set_ne (h.ne a) h.two
theorem Dk.in_ {g : G} {z : SS} {q v : Nat} {k : List Nat} (h : Dk g q k) : inW (.int v) (.ref q) (hp z g) = some (decide (v ∈ k)) := by
  rcases h with h | h
  · exact in_kv h.get
  · exact in_fz h.get
theorem Dk.len {g : G} {z : SS} {q : Nat} {k : List Nat} (h : Dk g q k) : B1.run .len (.ref q) (hp z g) = some (.int k.length) := by
  rcases h with h | h
  · simp [h.get, kv]
  · simp [h.get, kv]
theorem kv_keys (k : List Nat) : (kv k).map (·.1) = k.map fun (x : Nat) => W.int x := by simp [kv, Function.comp_def]
/-- a dict that is walked is locked -/
theorem Dk.src {g : G} {z : SS} {q : Nat} {k : List Nat} {call : CallF} {e : E} {ρ : Dl.Env} (h : Dk g q k) (he : ev T call e ρ (hp z g) = .ok (.ref q) (hp z g)) : Dl.src T call (.seq e) ρ (hp z g) = .ok (.vals (k.map fun (x : Nat) => W.int x)) (hp z (g.set (q - 2) (.fz (kv k)))) := by
  rcases h with h | h
  · simp only [Dl.src, he, ok_bind, h.get, h.put, kv_keys]
  · have e2 : g.set (q - 2) (.fz (kv k)) = g := by
      refine List.ext_getElem? fun i => ?_
      by_cases e : q - 2 = i
      · subst e
        rw [h.2, List.getElem?_set_self (by have := h.lt; have := h.1; omega)]
      · rw [List.getElem?_set_ne e]
    simp only [Dl.src, he, ok_bind, h.get, kv_keys, e2]
theorem Dk.lt {g : G} {q : Nat} {k : List Nat} (h : Dk g q k) : q < g.length + 2 := by rcases h with h | h <;> exact h.lt
/-! ### the sets found so far -/
structure SF (g : G) (lo p n : Nat) (ws : List W) (F : Nat → Option (List Nat)) : Prop where
  top : At g p (.lst ws)
  len : ws.length = n
  non : ∀ v, v < n → F v = none → ws[v]? = some .non
  som : ∀ v k, v < n → F v = some k → ∃ q, ws[v]? = some (.ref q) ∧ Dk g q k ∧ lo ≤ q
variable {g g' : G} {lo p n : Nat} {ws : List W} {F : Nat → Option (List Nat)}
theorem SF.ext (h : SF g lo p n ws F) (e : Ext g g') : SF g' lo p n ws F := ⟨h.top.ext e, h.len, h.non, fun v k hv hk => let ⟨q, a, b, c⟩ := h.som v k hv hk; ⟨q, a, b.ext e, c⟩⟩
theorem SF.frz {q : Nat} {k : List Nat} (h : SF g lo p n ws F) (d : Dk g q k) : SF (g.set (q - 2) (.fz (kv k))) lo p n ws F :=
  ⟨d.lst h.top, h.len, h.non, fun v k hv hk => let ⟨q, a, b, c⟩ := h.som v k hv hk; ⟨q, a, b.frz d, c⟩⟩
theorem SF.up {q v : Nat} {c : List Nat} (h : SF g lo p n ws F) (d : Dk g q c) (hq : lo ≤ q) (hv : v < n) : SF (g.set (p - 2) (.lst (ws.set v (.ref q)))) lo p n (ws.set v (.ref q)) (upF F v c) := by
  refine ⟨h.top.set_self, by rw [List.length_set]; exact h.len, fun w hw hF => ?_, fun w k hw hF => ?_⟩
  · by_cases e : w = v
    · subst e; simp [upF] at hF
    · simp only [upF, if_neg e] at hF
      rw [List.getElem?_set_ne (fun x => e x.symm)]
      exact h.non w hw hF
  · by_cases e : w = v
    · subst e
      simp only [upF, if_true] at hF
      cases hF
      exact ⟨q, List.getElem?_set_self (by rw [h.len]; exact hw), d.set h.top, hq⟩
    · simp only [upF, if_neg e] at hF
      obtain ⟨q', a, b, c'⟩ := h.som w k hw hF
      exact ⟨q', by rw [List.getElem?_set_ne (fun x => e x.symm)]; exact a, b.set h.top, c'⟩
theorem SF.at_ (h : SF g lo p n ws F) {v : Nat} (hv : v < n) : ∃ w, ws[v]? = some w ∧ ((F v = none ∧ w = .non) ∨ ∃ q k, F v = some k ∧ w = .ref q ∧ Dk g q k ∧ lo ≤ q) := by
  cases hF : F v with
  | none => exact ⟨_, h.non v hv hF, .inl ⟨rfl, rfl⟩⟩
  | some k =>
    obtain ⟨q, a, b, c⟩ := h.som v k hv hF
    exact ⟨_, a, .inr ⟨q, k, rfl, rfl, b, c⟩⟩
def wdF (ws : List W) (u : Int) : W := (ws[u.toNat]?).getD .non
/-! ### walks of lists, dicts made -/
theorem compL_filter {t : Tg} {c : Dl.Env → G → R Bool} {el : Dl.Env → G → R W} {ρ : Dl.Env} {f : W → W} {q : W → Bool} {i : Nat} {ws : List W} {g : G} (hat : g[i]? = some (.lst ws)) (h : ∀ w ∈ ws, ∃ ρ1, t.put w ρ = some ρ1 ∧ c ρ1 g = .ok (q w) g ∧ (q w = true → el ρ1 g = .ok (f w) g)) :
    ∀ {m j : Nat}, ws.length - j < m → j ≤ ws.length → compL t c el ρ (.live i) m j g = .ok (((ws.drop j).filter q).map f) g
  | 0, j, hm, _ => by omega
  | m + 1, j, hm, hj => by
    have ha : Cur.at_ (.live i) j g = some ws[j]? := by simp [Cur.at_, lstOf, hat]
    simp only [compL, ha]
    by_cases hlt : j < ws.length
    · obtain ⟨ρ1, e, e1, e2⟩ := h ws[j] (List.getElem_mem hlt)
      have ih := compL_filter hat h (m := m) (j := j + 1) (by omega) hlt
      rw [List.getElem?_eq_getElem hlt, List.drop_eq_getElem_cons hlt]
      cases hq : q ws[j] with
      | true => simp only [e, e1, e2 hq, hq, R.nx, R.bind, ih, List.filter_cons_of_pos hq, List.map_cons]
      | false => simp only [e, e1, hq, R.nx, R.bind, ih, List.filter_cons_of_neg (by rw [hq]; decide : ¬ q ws[j] = true)]
    · rw [List.getElem?_eq_none (by omega), List.drop_eq_nil_of_le (by omega)]
      rfl
theorem dcV_kv {call : CallF} {c : Dl.Env → G → R Bool} {t : Nat → Bool} {ρ : Dl.Env} {i : Nat} {g : G} (hi : i < ρ.length) : ∀ (k acc : List Nat), (∀ x ∈ k, c (ρ.set i (some (.int (x : Nat)))) g = .ok (t x) g) → acc.Nodup →
    ∃ c', dcV (.nm i) c (ev T call (.var i)) (ev T call (.cst (.bl true))) ρ (k.map fun (x : Nat) => W.int x) (kv acc) g = .ok (kv c') g ∧ c'.Nodup ∧ ∀ x, x ∈ c' ↔ x ∈ acc ∨ (x ∈ k ∧ t x = true)
  | [], acc, _, hn => ⟨acc, rfl, hn, by simp⟩
  | x :: r, acc, hc, hn => by
    have e : (ρ.set i (some (W.int (x : Nat))))[i]? = some (some (.int (x : Nat))) := List.getElem?_set_self hi
    have hx := hc x List.mem_cons_self
    cases ht : t x with
    | false =>
      obtain ⟨c', h1, h2, h3⟩ := dcV_kv hi r acc (fun y hy => hc y (List.mem_cons_of_mem _ hy)) hn
      refine ⟨c', ?_, h2, fun y => ?_⟩
      · rw [ht] at hx
        simp only [List.map_cons, dcV, Tg.put, hx, R.nx, R.bind]
        exact h1
      · rw [h3 y]
        constructor
        · rintro (h | ⟨h, h'⟩)
          · exact .inl h
          · exact .inr ⟨List.mem_cons_of_mem _ h, h'⟩
        · rintro (h | ⟨h, h'⟩)
          · exact .inl h
          · rcases List.mem_cons.mp h with rfl | h
            · rw [ht] at h'; cases h'
            · exact .inr ⟨h, h'⟩
    | true =>
      obtain ⟨c', h1, h2, h3⟩ := dcV_kv hi r (if x ∈ acc then acc else acc ++ [x]) (fun y hy => hc y (List.mem_cons_of_mem _ hy)) (by
        split
        · exact hn
        · rename_i hx
          refine List.nodup_append.mpr ⟨hn, by simp, fun a ha b hb eab => ?_⟩
          have hbx : b = x := by simpa using hb
          rw [eab, hbx] at ha
          exact hx ha)
      refine ⟨c', ?_, h2, fun y => ?_⟩
      · rw [ht] at hx
        simp only [List.map_cons, dcV, Tg.put, hx, R.nx, R.bind, ev, e, fits, if_true, kv_put]
        exact h1
      · rw [h3 y]
        have hm : y ∈ (if x ∈ acc then acc else acc ++ [x]) ↔ y ∈ acc ∨ y = x := by
          split
          · rename_i hx
            constructor
            · exact .inl
            · rintro (h | rfl)
              · exact h
              · exact hx
          · simp
        rw [hm]
        constructor
        · rintro ((h | rfl) | ⟨h, h'⟩)
          · exact .inl h
          · exact .inr ⟨List.mem_cons_self, ht⟩
          · exact .inr ⟨List.mem_cons_of_mem _ h, h'⟩
        · rintro (h | ⟨h, h'⟩)
          · exact .inl (.inl h)
          · rcases List.mem_cons.mp h with rfl | h
            · exact .inl (.inr rfl)
            · exact .inr ⟨h, h'⟩
/-! ### strict_sets: its parts -/
theorem comp_found {call : CallF} {z : SS} {q : Nat} {l : List Int} {ρ : Dl.Env} (hS : SF g lo p n ws F) (hq : At g q (.lst (l.map W.int))) (hl : l.length ≤ 20000) (hv : ∀ u ∈ l, 0 ≤ u ∧ u < n) (hi : 7 < ρ.length) (h3 : ρ[3]? = some (some (.ref p))) :
    compL (.nm 7) (tst T call (.cmp .isnot (.idx (.var 3) (.var 7)) (.cst .non))) (ev T call (.idx (.var 3) (.var 7))) ρ (.live q) FUEL 0 (hp z g) = .ok ((l.filter fun u => (F u.toNat).isSome).map (wdF ws)) (hp z g) := by
  rw [compL_filter (ws := l.map W.int) (f := fun x => match x with | .int u => wdF ws u | w => w) (q := fun x => match x with | .int u => (F u.toNat).isSome | _ => false) hq.get ?_ (by simp [FUEL, lim_nat]; omega) (Nat.zero_le _), List.drop_zero, List.filter_map, List.map_map]
  · rfl
  · intro x hx
    obtain ⟨u, hu, rfl⟩ := List.mem_map.mp hx
    obtain ⟨u0, u1⟩ := hv u hu
    obtain ⟨m, rfl⟩ := Int.eq_ofNat_of_zero_le u0
    have e : (ρ.set 7 (some (.int (m : Nat))))[7]? = some (some (.int (m : Nat))) := List.getElem?_set_self hi
    have e2 : (ρ.set 7 (some (.int (m : Nat))))[3]? = some (some (.ref p)) := by rw [List.getElem?_set_ne (by omega)]; exact h3
    have e3 := hS.top.get (z := z)
    obtain ⟨w, e4, h⟩ := hS.at_ (v := m) (by omega)
    refine ⟨_, rfl, ?_, fun _ => ?_⟩
    · rcases h with ⟨hF, rfl⟩ | ⟨q, k, hF, rfl, _⟩
      · exists e, e2, e3, atW_nat, e4, R.of, hF
      · exists e, e2, e3, atW_nat, e4, R.of, hF
    · exists e, e2, e3, atW_nat, e4, R.of, wdF
theorem tst_all {call : CallF} {z : SS} {p9 x : Nat} {us : List Int} {ρ : Dl.Env} (h9 : At g p9 (.lst (us.map (wdF ws)))) (hl : us.length ≤ 20000) (hD : ∀ u ∈ us, ∃ q k, F u.toNat = some k ∧ wdF ws u = .ref q ∧ Dk g q k) (hi : 13 < ρ.length) (e9 : ρ[9]? = some (some (.ref p9))) (e12 : ρ[12]? = some (some (.int (x : Nat)))) :
    tst T call (.bs .all (.comp [13] (.nm 13) (.seq (.var 9)) (.cst (.bl true)) (.cmp .in_ (.var 12) (.var 13)))) ρ (hp z g) = .ok (us.all fun u => decide (x ∈ (F u.toNat).getD [])) (hp z g) := by
  have e9' : (ρ.set 13 none)[9]? = some (some (.ref p9)) := by rw [List.getElem?_set_ne (by omega)]; exact e9
  have hc : compL (.nm 13) (tst T call (.cst (.bl true))) (ev T call (.cmp .in_ (.var 12) (.var 13))) (ρ.set 13 none) (.live p9) FUEL 0 (hp z g) = .ok (us.map fun u => .bl (decide (x ∈ (F u.toNat).getD []))) (hp z g) := by
    have : ∀ (us : List Int), (∀ u ∈ us, ∃ q k, F u.toNat = some k ∧ wdF ws u = .ref q ∧ Dk g q k) → compV (.nm 13) (tst T call (.cst (.bl true))) (ev T call (.cmp .in_ (.var 12) (.var 13))) (ρ.set 13 none) (us.map (wdF ws)) (hp z g) = .ok (us.map fun u => .bl (decide (x ∈ (F u.toNat).getD []))) (hp z g) := by
      intro us hD
      induction us with
      | nil => rfl
      | cons u r ih =>
        obtain ⟨q, k, h1, h2, h3⟩ := hD u List.mem_cons_self
        have ih := ih fun y hy => hD y (List.mem_cons_of_mem _ hy)
        have a1 : (ρ.set 13 (some (.ref q)))[13]? = some (some (.ref q)) := List.getElem?_set_self hi
        have a3 := h3.in_ (z := z) (v := x)
        simp only [List.map_cons, compV, Tg.put, h2, ih]
        exists a1, e12, Cop.run, a3, R.of, R.nx, R.bind, h1, ih
    rw [compL_eq (P := fun g' => g' = hp z g) (ws := us.map (wdF ws)) (fun g' e => by rw [e]; exact h9.get) ?_ ?_ (by simp [FUEL, lim_nat]; omega) rfl, List.drop_zero]
    · exact this us hD
    · rintro w hw g' ρ1 rfl e1 k g1 e3
      simp [tst, ev, R.of] at e3
      exact e3.2.symm
    · rintro w hw g' ρ1 rfl e1 k g1 e3
      obtain ⟨u, hu, rfl⟩ := List.mem_map.mp hw
      obtain ⟨q, k2, h1, h2, h3⟩ := hD u hu
      rw [h2] at e1
      cases e1
      have a1 : (ρ.set 13 (some (.ref q)))[13]? = some (some (.ref q)) := List.getElem?_set_self hi
      have a3 := h3.in_ (z := z) (v := x)
      simp [ev, a1, e12, Cop.run, a3, R.of] at e3
      exact e3.2.symm
  have e1 : asBls (us.map fun u => W.bl (decide (x ∈ (F u.toNat).getD []))) = some (us.map fun u => decide (x ∈ (F u.toNat).getD [])) := by
    have := asBls_map (us.map fun u => decide (x ∈ (F u.toNat).getD []))
    rwa [List.map_map] at this
  exists wipeE, e9, h9.get, hc, e1, R.of
  try (rw [Bool.eq_iff_iff]; simp [List.all_eq_true])
theorem ev_common {call : CallF} {z : SS} {p9 q0 : Nat} {u0 : Int} {k0 : List Nat} {us : List Int} {ρ : Dl.Env} (h9 : At g p9 (.lst ((u0 :: us).map (wdF ws)))) (hl : (u0 :: us).length ≤ 20000) (hD : ∀ u ∈ u0 :: us, ∃ q k, F u.toNat = some k ∧ wdF ws u = .ref q ∧ Dk g q k)
    (hF0 : F u0.toNat = some k0) (hw0 : wdF ws u0 = .ref q0) (hd0 : Dk g q0 k0) (hk0 : k0.length ≤ 1000) (hi : 13 < ρ.length) (e9 : ρ[9]? = some (some (.ref p9))) :
    ∃ c, ev T call (.dcomp [12] (.nm 12) (.seq (.idx (.var 9) (.cst (.int (0))))) (.bs .all (.comp [13] (.nm 13) (.seq (.var 9)) (.cst (.bl true)) (.cmp .in_ (.var 12) (.var 13)))) (.var 12) (.cst (.bl true))) ρ (hp z g) = .ok (.ref (g.length + 2)) (hp z (g.set (q0 - 2) (.fz (kv k0)) ++ [.dct (kv c)])) ∧ c.Nodup ∧
      ∀ x, x ∈ c ↔ ∀ u ∈ u0 :: us, ∀ k, F u.toNat = some k → x ∈ k := by
  have he : ev T call (.idx (.var 9) (.cst (.int (0)))) ρ (hp z g) = .ok (.ref q0) (hp z g) := by
    have := h9.get (z := z)
    exists e9, this, hw0
  have hs := hd0.src he
  have h9' := hd0.lst h9
  have hD' : ∀ u ∈ u0 :: us, ∃ q k, F u.toNat = some k ∧ wdF ws u = .ref q ∧ Dk (g.set (q0 - 2) (.fz (kv k0))) q k := fun u hu => let ⟨q, k, a, b, c⟩ := hD u hu; ⟨q, k, a, b, c.frz hd0⟩
  obtain ⟨c, h1, h2, h3⟩ := dcV_kv (call := call) (c := tst T call (.bs .all (.comp [13] (.nm 13) (.seq (.var 9)) (.cst (.bl true)) (.cmp .in_ (.var 12) (.var 13))))) (t := fun x => (u0 :: us).all fun u => decide (x ∈ (F u.toNat).getD [])) (ρ := ρ.set 12 none) (i := 12) (g := hp z (g.set (q0 - 2) (.fz (kv k0)))) (by simp; omega) k0 [] (fun x hx =>
    tst_all h9' hl hD' (by simp; omega) (by rw [List.getElem?_set_ne (by omega), List.getElem?_set_ne (by omega)]; exact e9) (List.getElem?_set_self (by simp; omega))) (by simp)
  refine ⟨c, ?_, h2, fun x => ?_⟩
  · have hkl : (k0.map fun (x : Nat) => W.int x).length ≤ lim := by rw [lim_nat]; simp; omega
    simp only [kv, List.map_nil] at h1
    simp only [ev] at h1 ⊢
    simp only [hs, ok_bind, if_pos hkl, wipeE]
    have h1 := h1
    simp only [kv] at h1 ⊢
    erw [h1]
    simp
  · rw [h3 x]
    simp only [List.not_mem_nil, false_or, List.all_eq_true, decide_eq_true_eq]
    constructor
    · rintro ⟨_, h⟩ u hu k hk
      have := h u hu
      rwa [hk] at this
    · intro h
      refine ⟨h u0 List.mem_cons_self k0 hF0, fun u hu => ?_⟩
      obtain ⟨q, k, a, b, c⟩ := hD u hu
      rw [a]
      exact h u hu k a

end Kx
namespace Kx
open Dl PySem
local macro_rules
  | `(tactic| exists $es,*) => `(tactic| simp [ev, evl, tst, its, src, ex, Tg.putS, Tg.put, $[$es:term],*])
theorem ixW_nat {n v : Nat} (h : v < n) : ixW n (v : Int) = some v := by simp [ixW, h]
theorem Rows.frz {g : G} {b p q : Nat} {ls : List (List Int)} {k : List Nat} (h : Rows g b p ls) (d : Dk g q k) : Rows (g.set (q - 2) (.fz (kv k))) b p ls := ⟨d.lst h.top, fun i l hl => d.lst (h.row i l hl), h.le, h.b2⟩
def prB (B : List (List Int)) (v : Nat) : List Nat := (B[v]?.getD []).map Int.toNat
theorem st_step {call : CallF} {z : SS} {r g : G} {lo pf n b pb v root : Nat} {ws : List W} {F : Nat → Option (List Nat)} {B : List (List Int)} {E : Nat → Nat → Prop} {w0 : W} {v4 v7 v9 v10 : Option W} {ch : Bool} {Q : Fl → Dl.Env → G → Prop} {X : Nat → Dl.Env → G → Prop}
    (hn : n ≤ 100) (hE : Ext r g) (hlo : r.length + 2 ≤ lo) (hpf : r.length + 2 ≤ pf) (hb : pf < b) (hlog : lo ≤ g.length + 2) (hS : SF g lo pf n ws F) (hR : Rows g b pb B) (hBl : B.length = n) (hB : ∀ l ∈ B, l.length ≤ 20000 ∧ ∀ u ∈ l, 0 ≤ u ∧ u < n) (hv : v < n) (hrt : root < n)
    (hrn : Rnd E (prB B) n root F)
    (HS : ∀ f v7 v9 v10 g', (f = .nx ∨ f = .cnt) → Ext r g' → lo ≤ g'.length + 2 → SF g' lo pf n ws F → Rows g' b pb B → (v ≠ root → Still (prB B) F v) → Q f [some w0, some (.tup [.int root]), some (.int n), some (.ref pf), v4, some (.ref pb), some (.int v), v7, some (.bl ch), v9, v10, none, none, none] (hp z g'))
    (HN : ∀ v7 v9 v10 g' ws' c, Ext r g' → lo ≤ g'.length + 2 → v ≠ root → Com (prB B) F v c → (∀ k, F v = some k → c.length < k.length) → SF g' lo pf n ws' (upF F v c) → Rows g' b pb B → Q .nx [some w0, some (.tup [.int root]), some (.int n), some (.ref pf), v4, some (.ref pb), some (.int v), v7, some (.bl true), v9, v10, none, none, none] (hp z g')) :
    (exs T call Fstrict_sets_5w1f_t0 [some w0, some (.tup [.int root]), some (.int n), some (.ref pf), v4, some (.ref pb), some (.int v), v7, some (.bl ch), v9, v10, none, none, none] (hp z g)).To Q X := by
  have hin : ∀ g, inW (.int v) (.tup [.int root]) g = some (decide (root = v)) := by
    intro g
    by_cases e : root = v
    · subst e; simp [inW, flatW, seqb]
    · have : ¬ (root : Int) = v := by omega
      simp [inW, flatW, seqb, e, this]
  by_cases hvr : root = v
  · subst hvr
    exists Fstrict_sets_5w1f_t0, Fstrict_sets_5w1f0, Cop.run, hin, Fstrict_sets_5w1f0a_t0, Fstrict_sets_5w1f0a0
    exact HS .cnt v7 v9 v10 g (.inr rfl) hE hlog hS hR (fun h => absurd rfl h)
  have hvr' : v ≠ root := fun e => hvr e.symm
  have hBv : B[v]? = some B[v] := List.getElem?_eq_getElem (by omega)
  obtain ⟨hl, hlv⟩ := hB _ (List.getElem_mem (show v < B.length by omega))
  have hpr : prB B v = B[v].map Int.toNat := by simp [prB, hBv]
  have hrow := hR.row v _ hBv
  have hc := comp_found (call := call) (z := z) (ρ := [some w0, some (.tup [.int root]), some (.int n), some (.ref pf), v4, some (.ref pb), some (.int v), none, some (.bl ch), v9, v10, none, none, none]) hS hrow hl hlv (by simp) rfl
  have husm : ∀ u, u ∈ B[v].filter (fun u => (F u.toNat).isSome) ↔ u ∈ B[v] ∧ (F u.toNat).isSome := by intro u; simp
  have husl : (B[v].filter (fun u => (F u.toNat).isSome)).length ≤ 20000 := by have := List.length_filter_le (fun u : Int => (F u.toNat).isSome) B[v]; omega
  generalize B[v].filter (fun u => (F u.toNat).isSome) = us at hc husm husl
  have hpru : ∀ u ∈ prB B v, ∀ k, F u = some k → (u : Int) ∈ us := by
    intro u hu k hk
    rw [hpr] at hu
    obtain ⟨a, ha, rfl⟩ := List.mem_map.mp hu
    have := (hlv a ha).1
    rw [Int.toNat_of_nonneg this]
    exact (husm a).mpr ⟨ha, by rw [hk]; rfl⟩
  have hupr : ∀ u ∈ us, u.toNat ∈ prB B v := by
    intro u hu
    rw [hpr]
    exact List.mem_map_of_mem ((husm u).mp hu).1
  exists Fstrict_sets_5w1f_t0, Fstrict_sets_5w1f0, Cop.run, hin, hvr, Fstrict_sets_5w1f_t1, Fstrict_sets_5w1f1, hR.top.get, atW_nat, hBl, hv, hrow.get, wipeE, hc
  generalize er : g ++ [_] = ga
  have ea : Ext g ga := er ▸ .app
  have a9 : At ga (g.length + 2) (.lst (us.map (wdF ws))) := er ▸ At.new
  have hS := hS.ext ea
  have hR := hR.ext ea
  have hE := hE.trans ea
  have hlog : lo ≤ ga.length + 2 := by have := ea.le; omega
  generalize g.length + 2 = p9 at a9 ⊢
  clear er ea hrow hc
  cases us with
  | nil =>
    exists Fstrict_sets_5w1f_t2, Fstrict_sets_5w1f2, a9.get
    refine HS .nx _ _ _ ga (.inl rfl) hE hlog hS hR fun _ => ?_
    rintro ⟨u, hu, ku, hku⟩
    have := hpru u hu ku hku
    simp at this
  | cons u0 us =>
    have hD : ∀ u ∈ u0 :: us, ∃ q k, F u.toNat = some k ∧ wdF ws u = .ref q ∧ Dk ga q k := by
      intro u hu
      obtain ⟨h1, h2⟩ := (husm u).mp hu
      obtain ⟨k, hk⟩ := Option.isSome_iff_exists.mp h2
      have := hlv u h1
      obtain ⟨q, e1, e2, _⟩ := hS.som u.toNat k (by omega) hk
      exact ⟨q, k, hk, by simp [wdF, e1], e2⟩
    obtain ⟨q0, k0, hF0, hw0, hd0⟩ := hD u0 List.mem_cons_self
    have hkl : ∀ v k, F v = some k → k.length ≤ n := fun v k hk => len_bd (hrn.nd v k hk) (hrn.bd v k hk)
    obtain ⟨c, h1, h2, h3⟩ := ev_common (call := call) (z := z) (ρ := [some w0, some (.tup [.int root]), some (.int n), some (.ref pf), v4, some (.ref pb), some (.int v), v7, some (.bl ch), some (.ref p9), v10, none, none, none]) a9 husl hD hF0 hw0 hd0 (by have := hkl _ _ hF0; omega) (by simp) rfl
    have hS := hS.frz hd0
    have hR := hR.frz hd0
    have hq0 : r.length ≤ q0 - 2 := by
      obtain ⟨m1, m2⟩ := (husm u0).mp List.mem_cons_self
      have := hlv u0 m1
      obtain ⟨q, e1, e2, e3⟩ := hS.som u0.toNat k0 (by omega) hF0
      simp only [wdF, e1, Option.getD_some] at hw0
      cases hw0
      omega
    have hE := hE.set (o := .fz (kv k0)) hq0
    have hgl : (ga.set (q0 - 2) (.fz (kv k0))).length = ga.length := by simp
    exists Fstrict_sets_5w1f_t2, Fstrict_sets_5w1f2, a9.get
    simp only [Fstrict_sets_5w1f2a_t0, seq_To, Fstrict_sets_5w1f2a0, ex, h1, ok_RSof, Tg.putS, To_go, nxt_nx]
    rw [← hgl]
    rw [← hgl] at hlog
    generalize ga.set (q0 - 2) (.fz (kv k0)) = gq at hS hR hE hlog ⊢
    have a10 : At (gq ++ [.dct (kv c)]) (gq.length + 2) (.dct (kv c)) := At.new
    have hcm : ∀ x, x ∈ c ↔ ∀ u ∈ prB B v, ∀ ku, F u = some ku → x ∈ ku := by
      intro x
      rw [h3 x]
      constructor
      · intro h u hu ku hku
        exact h u (hpru u hu ku hku) ku (by simpa using hku)
      · intro h u hu ku hku
        exact h u.toNat (hupr u hu) ku hku
    have hcl : c.length ≤ n := len_bd h2 fun x hx => hrn.bd _ _ hF0 x ((h3 x).mp hx u0 List.mem_cons_self k0 hF0)
    have hfit : (kv c).length < lim := by rw [lim_nat]; simp [kv]; omega
    have hput := a10.put (z := z) (o' := .dct (kv (if v ∈ c then c else c ++ [v])))
    have hset : (gq ++ [Ob.dct (kv c)]).set (gq.length + 2 - 2) (.dct (kv (if v ∈ c then c else c ++ [v]))) = gq ++ [.dct (kv (if v ∈ c then c else c ++ [v]))] := by simp
    rw [hset] at hput
    have hC : Com (prB B) F v (if v ∈ c then c else c ++ [v]) := by
      refine ⟨⟨u0.toNat, hupr u0 List.mem_cons_self, k0, hF0⟩, fun x => ?_, ?_⟩
      · split
        · rename_i hvc
          constructor
          · exact fun hx => .inr ((hcm x).mp hx)
          · rintro (rfl | hx)
            · exact hvc
            · exact (hcm x).mpr hx
        · rw [List.mem_append, hcm x, List.mem_singleton]
          exact Or.comm
      · split
        · exact h2
        · rename_i hvc
          refine List.nodup_append.mpr ⟨h2, by simp, fun a ha b hb eab => ?_⟩
          have hbx : b = v := by simpa using hb
          rw [eab, hbx] at ha
          exact hvc ha
    exists Fstrict_sets_5w1f2a_t1, Fstrict_sets_5w1f2a1, a10.get, fits, hfit, kv_put, hput
    generalize (if v ∈ c then c else c ++ [v]) = c' at hC ⊢
    clear a10 hput hset hfit
    generalize er : gq ++ [_] = gz
    have ez : Ext gq gz := er ▸ .app
    have a10 : At gz (gq.length + 2) (.dct (kv c')) := er ▸ At.new
    have hlo10 : lo ≤ gq.length + 2 := hlog
    generalize gq.length + 2 = p10 at a10 hlo10 ⊢
    have hS := hS.ext ez
    have hR := hR.ext ez
    have hE := hE.trans ez
    have hlog : lo ≤ gz.length + 2 := by have := ez.le; omega
    have hlen10 : B1.run .len (.ref p10) (hp z gz) = some (.int c'.length) := Dk.len (show Dk gz p10 c' from .inl a10)
    have hlz : (gz.set (pf - 2) (.lst (ws.set v (.ref p10)))).length = gz.length := by simp
    have hNew : (∀ k, F v = some k → c'.length < k.length) → Q .nx [some w0, some (.tup [.int root]), some (.int n), some (.ref pf), v4, some (.ref pb), some (.int v), v7, some (.bl true), some (.ref p9), some (.ref p10), none, none, none] (hp z (gz.set (pf - 2) (.lst (ws.set v (.ref p10))))) := fun hlt =>
      HN _ _ _ _ _ c' (hE.set (by omega)) (by rw [hlz]; exact hlog) hvr' hC hlt (hS.up (.inl a10) hlo10 hv) (hR.under hb (by omega))
    have hix : ixW ws.length v = some v := ixW_nat (by rw [hS.len]; exact hv)
    have hput := hS.top.put (z := z) (o' := .lst (ws.set v (.ref p10)))
    obtain ⟨w, e4, h4⟩ := hS.at_ hv
    rcases h4 with ⟨hF, rfl⟩ | ⟨q, k, hF, rfl, hd, _⟩
    · exists Fstrict_sets_5w1f2a_t2, Fstrict_sets_5w1f2a2, hS.top.get, atW_nat, e4, R.of, Fstrict_sets_5w1f2a2a_t0, Fstrict_sets_5w1f2a2a0, Fstrict_sets_5w1f2a2a_t1, Fstrict_sets_5w1f2a2a1, hix, hput
      exact hNew fun k hk => by rw [hF] at hk; cases hk
    · have hlk := hd.len (z := z)
      by_cases hlt : c'.length < k.length
      · have hn := hNew fun k' hk' => by rw [hF] at hk'; cases hk'; exact hlt
        rcases hd with hd | hd
        · exists Fstrict_sets_5w1f2a_t2, Fstrict_sets_5w1f2a2, hS.top.get, atW_nat, e4, R.of, a10.get, hd.get, kv, hlt, Fstrict_sets_5w1f2a2a_t0, Fstrict_sets_5w1f2a2a0, Fstrict_sets_5w1f2a2a_t1, Fstrict_sets_5w1f2a2a1, hix, hput
          exact hn
        · exists Fstrict_sets_5w1f2a_t2, Fstrict_sets_5w1f2a2, hS.top.get, atW_nat, e4, R.of, a10.get, hd.get, kv, hlt, Fstrict_sets_5w1f2a2a_t0, Fstrict_sets_5w1f2a2a0, Fstrict_sets_5w1f2a2a_t1, Fstrict_sets_5w1f2a2a1, hix, hput
          exact hn
      · have hn := HS .nx v7 (some (.ref p9)) (some (.ref p10)) gz (.inl rfl) hE hlog hS hR fun _ => hrn.still hvr' hC hF (by omega)
        rcases hd with hd | hd
        · exists Fstrict_sets_5w1f2a_t2, Fstrict_sets_5w1f2a2, hS.top.get, atW_nat, e4, R.of, a10.get, hd.get, kv, hlt
          exact hn
        · exists Fstrict_sets_5w1f2a_t2, Fstrict_sets_5w1f2a2, hS.top.get, atW_nat, e4, R.of, a10.get, hd.get, kv, hlt
          exact hn

end Kx
namespace Kx
open Dl PySem
local macro_rules
  | `(tactic| exists $es,*) => `(tactic| simp [ev, evl, tst, its, src, ex, Tg.putS, Tg.put, $[$es:term],*])
theorem strict_to {k lo pe root n : Nat} {z : SS} {r : G} {refs : List Nat} {ls : List (List Int)} {Q : W → G → Prop} {X : Nat → G → Prop} (hn : n ≤ 100) (hln : ls.length = n) (hrt : root < n) (hL : LL r lo pe refs ls) (h2 : ∀ l ∈ ls, l.length ≤ 100 ∧ ∀ v ∈ l, 0 ≤ v ∧ v < n)
    (H : ∀ pf ws F r', Ext r r' → r.length + 2 ≤ pf → SF r' (r.length + 2) pf n ws F → Sets (edge ls) (· = root) n F → Q (.ref pf) (hp z r')) :
    (callN T (k + 1) 3 [.ref pe, .tup [.int root], .int n] (hp z r)).To Q X := by
  refine call_To at3 rfl ?_
  have l1 := lim_ok (n := n) (by omega) (by omega)
  have l2 := lim_le (n := n) (by omega)
  exists Fstrict_sets_t0, Fstrict_sets_0, startE, l1, l2
  generalize er : r ++ [_, _] = ra
  have ea : Ext r ra := er ▸ .app
  have af : At ra (r.length + 3) (.lst (List.replicate n .non)) := er ▸ ⟨by omega, by simp⟩
  have hral : ra.length = r.length + 2 := er ▸ (by simp)
  have hix : ixW (List.replicate n W.non).length (root : Int) = some root := by rw [List.length_replicate]; exact ixW_nat hrt
  rw [List.length_replicate] at hix
  generalize hpf : r.length + 3 = pf at af ⊢
  exists Fstrict_sets_t1, Fstrict_sets_1
  obtain ⟨P0, hP0⟩ : ∃ P0 : Nat → Dl.Env → G → Prop, ∀ j ρ g, P0 j ρ g ↔ (j = 0 ∧ ρ = [some (.ref pe), some (.tup [.int root]), some (.int n), some (.ref (pf)), none, none, none, none, none, none, none, none, none, none] ∧ g = hp z ra) ∨ (j = 1 ∧ ∃ rb, ρ = [some (.ref pe), some (.tup [.int root]), some (.int n), some (.ref (pf)), some (.int root), none, none, none, none, none, none, none, none, none] ∧ g = hp z rb ∧ Ext r rb ∧ rb.length = r.length + 3 ∧
      SF rb (r.length + 2) (pf) n ((List.replicate n W.non).set root (.ref (r.length + 4))) (fun v => if v = root then some [root] else none)) := ⟨_, fun _ _ _ => Iff.rfl⟩
  refine forI_To (P := P0) (ws := [.int root]) ((hP0 _ _ _).mpr (.inl ⟨rfl, rfl, rfl⟩)) ?_ ?_
  · intro j ρ g hj p0
    rcases (hP0 _ _ _).mp p0 with ⟨rfl, rfl, rfl⟩ | ⟨rfl, _⟩
    · refine ⟨_, rfl, ?_⟩
      have afs : (hp z (ra ++ [.dct (kv [root])])).set (pf) _ = _ := (af.ext .app).put (o' := .lst ((List.replicate n W.non).set root (.ref (r.length + 4))))
      simp only [kv, List.map_cons, List.map_nil] at afs
      have afg : (hp z (ra ++ [.dct (kv [root])]))[pf]? = _ := af.get'
      simp only [kv, List.map_cons, List.map_nil] at afg
      exists Fstrict_sets_1f_t0, Fstrict_sets_1f0, pairW, fits, putD, afg, hix, hral, afs
      refine (hP0 _ _ _).mpr (.inr ⟨rfl, (ra ++ [Ob.dct [(W.int root, W.bl true)]]).set (pf - 2) (.lst ((List.replicate n W.non).set root (.ref (r.length + 4)))), rfl, rfl, (ea.trans .app).set (by omega), by simp [hral], ?_⟩)
      have aD : At ((ra ++ [Ob.dct [(W.int root, W.bl true)]]).set (pf - 2) (.lst ((List.replicate n W.non).set root (.ref (r.length + 4))))) (r.length + 4) (.dct (kv [root])) := by
        have := At.new (r := ra) (o := .dct (kv [root]))
        rw [hral] at this
        exact this.set_ne (by omega) (by omega)
      have aF : At ((ra ++ [Ob.dct [(W.int root, W.bl true)]]).set (pf - 2) (.lst ((List.replicate n W.non).set root (.ref (r.length + 4))))) (pf) (.lst ((List.replicate n W.non).set root (.ref (r.length + 4)))) := (af.ext .app).set_self
      refine ⟨aF, by simp, fun v hv hF => ?_, fun v k hv hF => ?_⟩
      · by_cases e : v = root
        · rw [if_pos e] at hF; cases hF
        · rw [List.getElem?_set_ne (fun x => e x.symm)]; simp [hv]
      · by_cases e : v = root
        · subst e
          rw [if_pos rfl] at hF
          cases hF
          exact ⟨r.length + 4, List.getElem?_set_self (by simpa using hv), .inl aD, by omega⟩
        · rw [if_neg e] at hF; cases hF
    · simp at hj
  intro ρ g p0
  rcases (hP0 _ _ _).mp p0 with ⟨h, _⟩ | ⟨_, rb, rfl, rfl, eb, hrbl, hS⟩
  · simp at h
  exists nxt_nx
  clear er af ea hix hral p0 hP0
  have h0 := lay0 (call := callN T k) (ρ := [some (.ref pe), some (.tup [.int root]), some (.int n), some (.ref (pf)), some (.int root), none, none, none, none, none, none, none, none, none]) (i := 11) (z := z) (List.range n) rb
  exists Fstrict_sets_t2, Fstrict_sets_2, l1, l2, wipeE, h0
  generalize er : rb ++ (_ ++ [_]) = rc
  have ec : Ext rb rc := er ▸ .app
  have hR : Rows rc (rb.length + 2) (rb.length + 2 + n) (List.replicate n []) := er ▸ rows0
  have hS := hS.ext ec
  have eb := eb.trans ec
  rw [hrbl] at hR
  rw [show rb.length + n + 2 = r.length + 3 + 2 + n by omega]
  generalize hpb : r.length + 3 + 2 + n = pb at hR ⊢
  generalize hb : r.length + 3 + 2 = b at hR hpb
  clear er h0 ec
  exists Fstrict_sets_t3, Fstrict_sets_3, l1, l2
  obtain ⟨P, hP⟩ : ∃ P : Nat → Dl.Env → G → Prop, ∀ j ρ g, P j ρ g ↔ ∃ (rr : G) (B : List (List Int)) (v6 v7 : Option W), ρ = [some (.ref pe), some (.tup [.int root]), some (.int n), some (.ref (pf)), some (.int root), some (.ref pb), v6, v7, none, none, none, none, none, none] ∧ g = hp z rr ∧ Ext r rr ∧ SF rr (r.length + 2) (pf) n ((List.replicate n W.non).set root (.ref (r.length + 4))) (fun v => if v = root then some [root] else none) ∧ Rows rr b pb B ∧ B.length = n ∧
      (∀ l ∈ B, l.length ≤ 100 * j) ∧ ∀ (v : Nat) l, B[v]? = some l → ∀ a : Int, a ∈ l ↔ ∃ u, u < j ∧ a = (u : Nat) ∧ edge ls u v := ⟨_, fun _ _ _ => Iff.rfl⟩
  refine forR_To (P := P) ((hP _ _ _).mpr ⟨rc, List.replicate n [], none, none, rfl, rfl, eb, hS, hR, by simp, fun l hl => by rw [List.eq_of_mem_replicate hl]; simp, fun v l hl a => ?_⟩) ?_ ?_
  · rw [List.eq_of_mem_replicate (List.mem_of_getElem? hl)]
    simp
  · intro j ρ g hj p0
    obtain ⟨rr, B, v6, v7, rfl, rfl, er, hS, hR, hBl, hBn, hBm⟩ := (hP _ _ _).mp p0
    have hje : ls[j]? = some ls[j] := List.getElem?_eq_getElem (by omega)
    obtain ⟨hll, hlv⟩ := h2 _ (List.getElem_mem (show j < ls.length by omega))
    have hed : ∀ v : Nat, edge ls j v ↔ (v : Int) ∈ ls[j] := fun v => by simp [edge, hje]
    generalize ls[j] = l at hje hll hlv hed
    have hL' := hL.ext er
    obtain ⟨q, hq, aq⟩ := hL'.at hje
    refine ⟨_, rfl, ?_⟩
    exists Fstrict_sets_3f_t0, Fstrict_sets_3f0, hL'.top.get, atW_nat, hq, aq.get
    obtain ⟨P2, hP2⟩ : ∃ P2 : Nat → Dl.Env → G → Prop, ∀ i ρ g, P2 i ρ g ↔ ∃ (rr : G) (B : List (List Int)) (v7 : Option W), ρ = [some (.ref pe), some (.tup [.int root]), some (.int n), some (.ref (pf)), some (.int root), some (.ref pb), some (.int j), v7, none, none, none, none, none, none] ∧ g = hp z rr ∧ Ext r rr ∧ SF rr (r.length + 2) (pf) n ((List.replicate n W.non).set root (.ref (r.length + 4))) (fun v => if v = root then some [root] else none) ∧ Rows rr b pb B ∧ B.length = n ∧
        (∀ l ∈ B, l.length ≤ 100 * j + i) ∧ ∀ (v : Nat) l2, B[v]? = some l2 → ∀ a : Int, a ∈ l2 ↔ (∃ u, u < j ∧ a = (u : Nat) ∧ edge ls u v) ∨ (a = j ∧ (v : Int) ∈ l.take i) := ⟨_, fun _ _ _ => Iff.rfl⟩
    refine forJ_To (P := P2) (ws := l.map W.int) (by simp [FUEL, lim_nat]; omega) ((hP2 _ _ _).mpr ⟨rr, B, v7, rfl, rfl, er, hS, hR, hBl, by simpa using hBn, fun v l2 h a => by rw [hBm v l2 h a]; simp⟩) ?_ ?_ ?_
    · intro i ρ g p0
      obtain ⟨rr, B, v7, rfl, rfl, er, _⟩ := (hP2 _ _ _).mp p0
      have hL' := hL.ext er
      obtain ⟨q', hq', aq'⟩ := hL'.at hje
      rw [hq] at hq'
      cases hq'
      exact aq'.get
    · intro i ρ g hi p0
      obtain ⟨rr, B, v7, rfl, rfl, er, hS, hR, hBl, hBn, hBm⟩ := (hP2 _ _ _).mp p0
      have hil : i < l.length := by simpa using hi
      obtain ⟨hv0, hv1⟩ := hlv l[i] (List.getElem_mem hil)
      obtain ⟨v, hv⟩ := Int.eq_ofNat_of_zero_le hv0
      have hvn : v < n := by omega
      have hBv : B[v]? = some B[v] := List.getElem?_eq_getElem (by omega)
      have hrow := hR.row v _ hBv
      have hbl := hBn _ (List.getElem_mem (show v < B.length by omega))
      have hap := hrow.append (z := z) (y := .int j) (by rw [lim_nat]; simp; omega)
      refine ⟨_, rfl, ?_⟩
      exists Fstrict_sets_3f0f_t0, Fstrict_sets_3f0f0, hR.top.get, hv, atW_nat, hBl, hvn, hrow.get, hap
      refine (hP2 _ _ _).mpr ⟨_, B.set v (B[v] ++ [(j : Int)]), _, rfl, rfl, er.set (by omega), ?_, ?_, by simpa using hBl, fun l2 hl2 => ?_, fun w l2 hw a => ?_⟩
      · have hne : ∀ q k, Dk rr q k → Dk (rr.set (b + v - 2) (.lst (B[v].map W.int ++ [.int j]))) q k := fun q k d => d.set hrow
        exact ⟨hS.top.set_ne (by omega) (by omega), hS.len, hS.non, fun w k hw hk => let ⟨q, a1, a2, a3⟩ := hS.som w k hw hk; ⟨q, a1, hne q k a2, a3⟩⟩
      · have := hR.set (l' := B[v] ++ [(j : Int)]) hBv
        simpa using this
      · rcases List.mem_or_eq_of_mem_set hl2 with h | h
        · have := hBn l2 h; omega
        · rw [h]; simp; omega
      · by_cases e : w = v
        · subst e
          rw [List.getElem?_set_self (by omega)] at hw
          cases hw
          rw [List.mem_append, hBm w _ hBv a, List.mem_singleton, List.take_succ_eq_append_getElem hil, List.mem_append, List.mem_singleton, hv]
          constructor
          · rintro ((h | ⟨h1, h2⟩) | h)
            · exact .inl h
            · exact .inr ⟨h1, .inl h2⟩
            · exact .inr ⟨h, .inr rfl⟩
          · rintro (h | ⟨h1, h2 | h2⟩)
            · exact .inl (.inl h)
            · exact .inl (.inr ⟨h1, h2⟩)
            · exact .inr h1
        · rw [List.getElem?_set_ne (fun x => e x.symm)] at hw
          rw [hBm w _ hw a, List.take_succ_eq_append_getElem hil, List.mem_append, List.mem_singleton, hv]
          constructor
          · rintro (h | ⟨h1, h2⟩)
            · exact .inl h
            · exact .inr ⟨h1, .inl h2⟩
          · rintro (h | ⟨h1, h2 | h2⟩)
            · exact .inl h
            · exact .inr ⟨h1, h2⟩
            · exact absurd (by omega) e
    · intro ρ g p0
      obtain ⟨rr, B, v7, rfl, rfl, er, hS, hR, hBl, hBn, hBm⟩ := (hP2 _ _ _).mp p0
      exists nxt_nx
      refine (hP _ _ _).mpr ⟨rr, B, _, v7, rfl, rfl, er, hS, hR, hBl, fun l2 h => ?_, fun v l2 h a => ?_⟩
      · have := hBn l2 h
        simp at this
        omega
      · rw [hBm v l2 h a]
        simp only [List.length_map, List.take_length]
        constructor
        · rintro (⟨u, h1, h2, h3⟩ | ⟨h1, h2⟩)
          · exact ⟨u, by omega, h2, h3⟩
          · exact ⟨j, by omega, h1, (hed v).mpr h2⟩
        · rintro ⟨u, h1, h2, h3⟩
          by_cases e : u = j
          · subst e; exact .inr ⟨h2, (hed v).mp h3⟩
          · exact .inl ⟨u, by omega, h2, h3⟩
  · intro ρ g p0
    obtain ⟨rr, B, v6, v7, rfl, rfl, er, hS, hR, hBl, hBn, hBm⟩ := (hP _ _ _).mp p0
    have hB : ∀ l ∈ B, l.length ≤ 20000 ∧ ∀ u ∈ l, 0 ≤ u ∧ u < n := by
      intro l hl
      obtain ⟨v, hv⟩ := List.mem_iff_getElem?.mp hl
      refine ⟨by have := hBn l hl; omega, fun u hu => ?_⟩
      obtain ⟨w, h1, h2, _⟩ := (hBm v l hv u).mp hu
      omega
    have hpr : ∀ u v, u ∈ prB B v ↔ v < n ∧ u < n ∧ edge ls u v := by
      intro u v
      by_cases hv : v < n
      · have hBv : B[v]? = some B[v] := List.getElem?_eq_getElem (by omega)
        simp only [prB, hBv, Option.getD_some, List.mem_map]
        constructor
        · rintro ⟨a, ha, rfl⟩
          obtain ⟨w, h1, h2, h3⟩ := (hBm v _ hBv a).mp ha
          subst h2
          exact ⟨hv, by simpa using h1, by simpa using h3⟩
        · rintro ⟨_, h1, h3⟩
          exact ⟨u, (hBm v _ hBv u).mpr ⟨u, h1, rfl, h3⟩, by simp⟩
      · have hBv : B[v]? = none := List.getElem?_eq_none (by omega)
        simp [prB, hBv, hv]
    have hE1 : ∀ u v, u ∈ prB B v → edge ls u v := fun u v h => ((hpr u v).mp h).2.2
    have hE2 : ∀ u v, edge ls u v → u ∈ prB B v ∧ v < n := by
      intro u v h
      have hu : u < n := by
        rcases Nat.lt_or_ge u n with h1 | h1
        · exact h1
        · simp only [edge, List.getElem?_eq_none (show ls.length ≤ u by omega), Option.getD_none] at h; cases h
      have hv : v < n := by
        have hue : ls[u]? = some ls[u] := List.getElem?_eq_getElem (by omega)
        simp only [edge, hue, Option.getD_some] at h
        have := (h2 _ (List.getElem_mem (show u < ls.length by omega))).2 v h
        omega
      exact ⟨(hpr u v).mpr ⟨hv, hu, h⟩, hv⟩
    clear hBm hBn
    exists Fstrict_sets_t4, Fstrict_sets_4, Fstrict_sets_t5, Fstrict_sets_5
    have hrn0 : Rnd (edge ls) (prB B) n root (fun v => if v = root then some [root] else none) := Rnd.start hrt
    have hlo := er.le
    generalize hF0 : (fun v => if v = root then some [root] else none : Nat → Option (List Nat)) = F0 at hS hrn0
    generalize (List.replicate n W.non).set root (.ref (r.length + 4)) = ws0 at hS
    have kl : ∀ {F}, Rnd (edge ls) (prB B) n root F → ∀ v k, F v = some k → k.length ≤ n := fun h v k hk => len_bd (h.nd v k hk) (h.bd v k hk)
    obtain ⟨P, hP⟩ : ∃ P : Nat → Dl.Env → G → Prop, ∀ m ρ g, P m ρ g ↔ ∃ (rr : G) (ws : List W) (F : Nat → Option (List Nat)) (ch : Bool) (v6 v7 v9 v10 : Option W), ρ = [some (.ref pe), some (.tup [.int root]), some (.int n), some (.ref (pf)), some (.int root), some (.ref pb), v6, v7, some (.bl ch), v9, v10, none, none, none] ∧ g = hp z rr ∧ Ext r rr ∧ r.length + 2 ≤ rr.length + 2 ∧ SF rr (r.length + 2) (pf) n ws F ∧ Rows rr b pb B ∧ Rnd (edge ls) (prB B) n root F ∧
        (ch = false → ∀ v, v < n → v ≠ root → Still (prB B) F v) ∧ m = muF n F n + (if ch = true then 1 else 0) := ⟨_, fun _ _ _ => Iff.rfl⟩
    refine whl_To (P := P) (m := muF n F0 n + 1) ((hP _ _ _).mpr ⟨rr, ws0, F0, true, v6, v7, none, none, rfl, rfl, er, by omega, hS, hR, hrn0, by simp, by simp⟩) (by
      have h1 := muF_le (n := n) (F := F0) (kl hrn0) n
      have h3 := Nat.mul_le_mul hn (show n + 1 ≤ 101 by omega)
      simp [FUEL, lim_nat]; omega) ?_
    intro m ρ g p0
    obtain ⟨rr, ws, F, ch, v6, v7, v9, v10, rfl, rfl, er, hlo, hS, hR, hrn, hst, rfl⟩ := (hP _ _ _).mp p0
    cases ch with
    | false =>
      exists Fstrict_sets_t6, Fstrict_sets_6
      rw [gc_keep (by simp; omega)]
      exact H _ ws F rr er (by omega) hS (hrn.sets hE2 (hst rfl))
    | true =>
      exists Fstrict_sets_5w_t0, Fstrict_sets_5w0, Fstrict_sets_5w_t1, Fstrict_sets_5w1, l1, l2
      obtain ⟨P2, hP2⟩ : ∃ P2 : Nat → Dl.Env → G → Prop, ∀ j ρ g, P2 j ρ g ↔ ∃ (rr : G) (ws : List W) (F' : Nat → Option (List Nat)) (ch : Bool) (v6 v7 v9 v10 : Option W), ρ = [some (.ref pe), some (.tup [.int root]), some (.int n), some (.ref (pf)), some (.int root), some (.ref pb), v6, v7, some (.bl ch), v9, v10, none, none, none] ∧ g = hp z rr ∧ Ext r rr ∧ r.length + 2 ≤ rr.length + 2 ∧ SF rr (r.length + 2) (pf) n ws F' ∧ Rows rr b pb B ∧ Rnd (edge ls) (prB B) n root F' ∧
          (ch = false → muF n F' n ≤ muF n F n ∧ ∀ v, v < j → v ≠ root → Still (prB B) F' v) ∧ (ch = true → muF n F' n < muF n F n) := ⟨_, fun _ _ _ => Iff.rfl⟩
      refine forR_To (P := P2) ((hP2 _ _ _).mpr ⟨rr, ws, F, false, v6, v7, v9, v10, rfl, rfl, er, hlo, hS, hR, hrn, by simp, by simp⟩) ?_ ?_
      · intro j ρ g hj p0
        obtain ⟨rr, ws, F', ch, v6, v7, v9, v10, rfl, rfl, er, hlo, hS, hR, hrn, h3, h4⟩ := (hP2 _ _ _).mp p0
        refine ⟨_, rfl, ?_⟩
        refine st_step (E := edge ls) hn er (Nat.le_refl _) (by omega) (by omega) hlo hS hR hBl hB hj hrt hrn ?_ ?_
        · rintro f v7 v9 v10 g' hf e1 e2 e3 e4 e5
          have : P2 (j + 1) [some (.ref pe), some (.tup [.int root]), some (.int n), some (.ref (pf)), some (.int root), some (.ref pb), some (.int j), v7, some (.bl ch), v9, v10, none, none, none] (hp z g') := by
            refine (hP2 _ _ _).mpr ⟨g', ws, F', ch, _, v7, v9, v10, rfl, rfl, e1, by omega, e3, e4, hrn, fun hc => ⟨(h3 hc).1, fun v hv hr => ?_⟩, h4⟩
            rcases Nat.lt_or_ge v j with h | h
            · exact (h3 hc).2 v h hr
            · have : v = j := by omega
              subst this
              exact e5 hr
          rcases hf with rfl | rfl <;> exact this
        · intro v7 v9 v10 g' ws' c e1 e2 e3 e4 e5 e6 e7
          have hrn' := hrn.step hE1 e3 hj e4
          have hcl : c.length ≤ n := kl hrn' j c (by simp [upF])
          have hmu := muF_up (n := n) hcl e5 n
          rw [if_pos hj] at hmu
          refine (hP2 _ _ _).mpr ⟨g', ws', _, true, _, v7, v9, v10, rfl, rfl, e1, by omega, e6, e7, hrn', by simp, fun _ => ?_⟩
          cases ch with
          | false => have := (h3 rfl).1; omega
          | true => have := h4 rfl; omega
      · intro ρ g p0
        obtain ⟨rr, ws, F', ch, v6, v7, v9, v10, rfl, rfl, er, hlo, hS, hR, hrn, h3, h4⟩ := (hP2 _ _ _).mp p0
        exists nxt_nx
        cases ch with
        | false => exact ⟨_, by have := (h3 rfl).1; simp; omega, (hP _ _ _).mpr ⟨rr, ws, F', false, v6, v7, v9, v10, rfl, rfl, er, hlo, hS, hR, hrn, fun _ => (h3 rfl).2, rfl⟩⟩
        | true => exact ⟨_, by have := h4 rfl; simp; omega, (hP _ _ _).mpr ⟨rr, ws, F', true, v6, v7, v9, v10, rfl, rfl, er, hlo, hS, hR, hrn, by simp, rfl⟩⟩

end Kx
namespace Kx
open Dl PySem
local macro_rules
  | `(tactic| exists $es,*) => `(tactic| simp [ev, evl, tst, its, src, ex, Tg.putS, Tg.put, $[$es:term],*])
theorem Rch.cong {E : Nat → Nat → Prop} {S S' : Nat → Prop} (h : ∀ v, S v → S' v) {a : Int} {v : Nat} (r : Rch E S a v) : Rch E S' a v := by
  induction r with
  | st s n => exact .st (h _ s) n
  | go _ e n ih => exact .go ih e n
/-- what the program says of each node -/
def immR (F : Nat → Option (List Nat)) (v : Nat) : Int := match F v with
  | none => -1
  | some k => immS (szF F) v k (-1)
theorem immediate_to {k lo pf n : Nat} {z : SS} {r0 r : G} {ws : List W} {F : Nat → Option (List Nat)} {Q : W → G → Prop} {X : Nat → G → Prop} (hn : n ≤ 100) (hE : Ext r0 r) (hlo : r0.length + 2 ≤ lo) (hS : SF r lo pf n ws F)
    (hm : ∀ v k, F v = some k → k.length ≤ 100 ∧ ∀ x ∈ k, x < n ∧ ∃ kx, F x = some kx)
    (H : ∀ p' r', Ext r0 r' → r.length + 2 ≤ p' → At r' p' (.lst (((List.range n).map (immR F)).map W.int)) → Q (.ref p') (hp z r')) :
    (callN T (k + 1) 4 [.ref pf] (hp z r)).To Q X := by
  refine call_To at4 rfl ?_
  exists Fimmediate_t0, Fimmediate_0, startE
  generalize er : r ++ [_] = ra
  have ea : Ext r ra := er ▸ .app
  have a1 : At ra (r.length + 2) (.lst []) := er ▸ At.new
  have hpf := hS.top.lt
  have hS := hS.ext ea
  have hE' := hE.trans ea
  have hle := hE.le
  generalize hp1 : r.length + 2 = p1 at a1 H ⊢
  have hlt : r0.length + 2 ≤ p1 := by omega
  exists Fimmediate_t1, Fimmediate_1, hS.top.get
  obtain ⟨P, hP⟩ : ∃ P : Nat → Dl.Env → G → Prop, ∀ j ρ g, P j ρ g ↔ ∃ (rr : G) (v2 v3 v4 v5 : Option W), ρ = [some (.ref pf), some (.ref p1), v2, v3, v4, v5] ∧ g = hp z rr ∧ Ext r0 rr ∧ SF rr lo pf n ws F ∧ At rr p1 (.lst (((List.range j).map (immR F)).map W.int)) := ⟨_, fun _ _ _ => Iff.rfl⟩
  refine forE_To (P := P) (ws := ws) (by rw [hS.len]; simp [FUEL, lim_nat]; omega) ((hP _ _ _).mpr ⟨ra, none, none, none, none, rfl, rfl, hE', hS, a1⟩) ?_ ?_ ?_
  · intro j ρ g p0
    obtain ⟨rr, v2, v3, v4, v5, rfl, rfl, er, hS, a1⟩ := (hP _ _ _).mp p0
    exact hS.top.get
  · intro j ρ g hj p0
    obtain ⟨rr, v2, v3, v4, v5, rfl, rfl, er, hS, a1⟩ := (hP _ _ _).mp p0
    have hjn : j < n := by rw [← hS.len]; exact hj
    have hne : p1 ≠ pf := by omega
    have hl : (((List.range j).map (immR F)).map W.int).length < lim := by rw [lim_nat]; simp; omega
    have fin : ∀ (rr : G) (v4' : Int) (v5 : Option W), Ext r0 rr → SF rr lo pf n ws F → At rr p1 (.lst (((List.range j).map (immR F)).map W.int)) → v4' = immR F j → (exs T (callN T k) Fimmediate_1f_t2 [some (.ref pf), some (.ref p1), some (.int j), some ws[j], some (.int v4'), v5] (hp z rr)).To (fun f ρ2 g2 => match f with
      | .nx => P (j + 1) ρ2 g2
      | .cnt => P (j + 1) ρ2 g2
      | .brk => (exs T (callN T k) Fimmediate_t2 ρ2 g2).To (Dl.fin (hp z r) Q) (fun c _ g' => X c (gc (hp z r) .non g'))
      | .ret v => Dl.fin (hp z r) Q (.ret v) ρ2 g2) (fun c _ g' => X c (gc (hp z r) .non g')) := by
      intro rr v4' v5 er hS a1 e
      have hap := a1.append (z := z) (y := .int v4') hl
      exists Fimmediate_1f_t2, Fimmediate_1f2, a1.get, hap
      refine (hP _ _ _).mpr ⟨_, _, _, _, _, rfl, rfl, er.set (by omega), ⟨hS.top.set_ne hne (by omega), hS.len, hS.non, fun v k hv hk => let ⟨q, b1, b2, b3⟩ := hS.som v k hv hk; ⟨q, b1, b2.set a1, b3⟩⟩, ?_⟩
      have := a1.set_self (o' := .lst (((List.range j).map (immR F)).map W.int ++ [.int v4']))
      rw [e] at this
      rw [List.range_succ]
      simpa [e] using this
    obtain ⟨w, e4, h4⟩ := hS.at_ hjn
    have hwj : ws[j] = w := by rw [List.getElem?_eq_getElem hj] at e4; exact Option.some.inj e4
    refine ⟨_, rfl, ?_⟩
    rcases h4 with ⟨hF, rfl⟩ | ⟨q, kj, hF, rfl, hd, _⟩
    · have := fin rr (-1) v5 er hS a1 (by simp [immR, hF])
      rw [hwj] at this ⊢
      exists Fimmediate_1f_t0, Fimmediate_1f0, Fimmediate_1f_t1, Fimmediate_1f1
      exact this
    · obtain ⟨hkl, hkm⟩ := hm j kj hF
      have hs := hd.src (z := z) (call := callN T k) (e := .var 3) (ρ := [some (.ref pf), some (.ref p1), some (.int j), some (.ref q), some (.int (-1)), v5]) (by exists hd)
      rw [hwj]
      rw [hwj] at fin
      exists Fimmediate_1f_t0, Fimmediate_1f0, Fimmediate_1f_t1, Fimmediate_1f1, Fimmediate_1f1a_t0
      simp only [Fimmediate_1f1a0, ex, hs, ok_RSof]
      have er := er.set (i := q - 2) (o := .fz (kv kj)) (by
        obtain ⟨q', b1, b2, b3⟩ := hS.som j kj hjn hF
        rw [e4] at b1
        cases b1
        omega)
      have a1 := hd.lst a1
      have hS := hS.frz hd
      generalize rr.set (q - 2) (.fz (kv kj)) = rf at er a1 hS ⊢
      obtain ⟨P2, hP2⟩ : ∃ P2 : Nat → Dl.Env → G → Prop, ∀ i ρ g, P2 i ρ g ↔ ∃ (m : Int) (v5 : Option W), ρ = [some (.ref pf), some (.ref p1), some (.int j), some (.ref q), some (.int m), v5] ∧ g = hp z rf ∧ immS (szF F) j (kj.drop i) m = immS (szF F) j kj (-1) ∧ (m = -1 ∨ ∃ y ∈ kj, m = (y : Nat)) := ⟨_, fun _ _ _ => Iff.rfl⟩
      refine forI_To (P := P2) ((hP2 _ _ _).mpr ⟨-1, v5, rfl, rfl, by simp, .inl rfl⟩) ?_ ?_
      · intro i ρ g hi p0
        obtain ⟨m, v5, rfl, rfl, him, hmm⟩ := (hP2 _ _ _).mp p0
        have hik : i < kj.length := by simpa using hi
        obtain ⟨hx1, kx, hx2⟩ := hkm _ (List.getElem_mem hik)
        obtain ⟨qx, c1, c2, _⟩ := hS.som _ kx hx1 hx2
        rw [List.drop_eq_getElem_cons hik] at him
        simp only [immS] at him
        simp only [List.getElem_map]
        have hszx : szF F kj[i] = kx.length := by simp [szF, hx2]
        have hxm := List.getElem_mem hik
        generalize kj[i] = x at him hx1 hx2 c1 hszx hxm
        refine ⟨_, rfl, ?_⟩
        by_cases hxj : x = j
        · subst hxj
          rw [if_neg (by simp)] at him
          exists Fimmediate_1f1a0f_t0, Fimmediate_1f1a0f0
          exact (hP2 _ _ _).mpr ⟨m, _, rfl, rfl, him, hmm⟩
        · have hxj' : ¬ (x : Int) = j := by omega
          have yes : m < 0 ∨ szF F m.toNat < szF F x → P2 (i + 1) [some (.ref pf), some (.ref p1), some (.int j), some (.ref q), some (.int x), some (.int x)] (hp z rf) := by
            intro h
            rw [if_pos ⟨hxj, h⟩] at him
            exact (hP2 _ _ _).mpr ⟨x, _, rfl, rfl, him, .inr ⟨x, hxm, rfl⟩⟩
          rcases hmm with rfl | ⟨y, hy, rfl⟩
          · have := yes (.inl (by omega))
            exists Fimmediate_1f1a0f_t0, Fimmediate_1f1a0f0, hxj', Fimmediate_1f1a0f0a_t0, Fimmediate_1f1a0f0a0
            exact this
          · obtain ⟨hy1, ky, hy2⟩ := hkm _ hy
            obtain ⟨qy, d1, d2, _⟩ := hS.som _ ky hy1 hy2
            have hszy : szF F y = ky.length := by simp [szF, hy2]
            have hn0 : ¬ ((y : Int) < 0) := by omega
            by_cases hc : ky.length < kx.length
            · have := yes (.inr (by simp only [Int.toNat_natCast]; omega))
              rcases c2 with c2 | c2 <;> rcases d2 with d2 | d2 <;>
              · exists Fimmediate_1f1a0f_t0, Fimmediate_1f1a0f0, hxj', hn0, hS.top.get, atW_nat, c1, d1, c2.get, d2.get, kv, hc, Fimmediate_1f1a0f0a_t0, Fimmediate_1f1a0f0a0
                exact this
            · rw [if_neg (by simp only [Int.toNat_natCast]; omega)] at him
              have := (hP2 (i + 1) _ _).mpr ⟨(y : Int), some (.int x), rfl, rfl, him, .inr ⟨y, hy, rfl⟩⟩
              rcases c2 with c2 | c2 <;> rcases d2 with d2 | d2 <;>
              · exists Fimmediate_1f1a0f_t0, Fimmediate_1f1a0f0, hxj', hn0, hS.top.get, atW_nat, c1, d1, c2.get, d2.get, kv, hc
                exact this
      · intro ρ g p0
        obtain ⟨m, v5, rfl, rfl, him, hmm⟩ := (hP2 _ _ _).mp p0
        exists nxt_nx
        refine fin rf m v5 er hS a1 ?_
        rw [List.length_map, List.drop_length] at him
        simp [immR, hF, ← him, immS]
  · intro ρ g p0
    obtain ⟨rr, v2, v3, v4, v5, rfl, rfl, er, hS, a1⟩ := (hP _ _ _).mp p0
    exists Fimmediate_t2, Fimmediate_2
    rw [gc_keep (by simp; omega)]
    rw [hS.len] at a1
    exact H p1 rr er (by omega) a1

end Kx
namespace Kx
open Dl PySem
local macro_rules
  | `(tactic| exists $es,*) => `(tactic| simp [ev, evl, tst, its, src, ex, Tg.putS, Tg.put, $[$es:term],*])
theorem leadL_at {nodes : List (List W × End)} {u : Nat} (hu : u < nodes.length) : (leadL nodes)[u]? = some nodes[u].2.to := by simp [leadL, hu]
theorem leadL_ok {nodes : List (List W × End)} (ht : ∀ nd ∈ nodes, ∀ t ∈ nd.2.tg, 0 ≤ t ∧ t < nodes.length) : ∀ l ∈ leadL nodes, l.length ≤ 2 ∧ ∀ v ∈ l, 0 ≤ v ∧ v < nodes.length := by
  intro l hl
  obtain ⟨nd, hnd, rfl⟩ := List.mem_map.mp hl
  exact ⟨nd.2.to_len, fun v hv => ht nd hnd v ((nd.2.mem_to v).mp hv)⟩
theorem reach_all {many : Int} {nodes : List (List W × End)} (h : Ends many nodes.length (nodes.map (·.2))) : ∀ v, v < nodes.length → Rch (edge (leadL nodes)) (· = 0) (-1) v := by
  intro v
  induction v using Nat.strongRecOn with
  | ind v ih =>
    intro hv
    by_cases h0 : v = 0
    · exact .st h0 (by omega)
    · obtain ⟨k, e, h1, h2, h3⟩ := h.all v (by omega) (by omega)
      have hk : k < nodes.length := by omega
      refine .go (ih k (by omega) hk) ?_ (by omega)
      have he : nodes[k].2 = e := by simpa [hk] using h2
      simp only [edge, leadL_at hk, Option.getD_some, he]
      exact (e.mem_to v).mpr h3
/-- what dominates what -/
def DomOk (D : Nat → Nat → Bool) (nodes : List (List W × End)) : Prop := ∀ a b, D a b = true ↔ ¬ Rch (edge (leadL nodes)) (· = 0) a b
theorem dom_ex (nodes : List (List W × End)) : ∃ D, DomOk D nodes := ⟨fun a b => @decide _ (Classical.propDecidable (¬ Rch (edge (leadL nodes)) (· = 0) a b)), fun a b => by simp⟩
theorem DomOk.mem {D : Nat → Nat → Bool} {nodes : List (List W × End)} (h : DomOk D nodes) {F : Nat → Option (List Nat)} (hF : Sets (edge (leadL nodes)) (· = 0) nodes.length F) {x y : Nat} {ky : List Nat} (hy : F y = some ky) : decide (x ∈ ky) = D x y := by
  rw [Bool.eq_iff_iff, decide_eq_true_eq, h x y]
  exact hF.mem hy
/-- the immediate ones by the law -/
def ownD (D : Nat → Nat → Bool) (n v : Nat) : List Nat := (List.range n).filter fun a => decide (a ≠ v) && D a v
def dueI (D : Nat → Nat → Bool) (n v : Nat) : Int := immL (fun a => decide (((ownD D n v).filter fun c => !D c a).length = 0)) (ownD D n v) (-1)
theorem due_eq {D : Nat → Nat → Bool} {nodes : List (List W × End)} (hD : DomOk D nodes) {F : Nat → Option (List Nat)} (hF : Sets (edge (leadL nodes)) (· = 0) nodes.length F) {v : Nat} {k : List Nat} (hv : F v = some k) : immR F v = dueI D nodes.length v := by
  have hmem : ∀ a, a ∈ ownD D nodes.length v ↔ a ∈ k ∧ a ≠ v := by
    intro a
    simp only [ownD, List.mem_filter, List.mem_range, Bool.and_eq_true, decide_eq_true_eq]
    rw [hD a v, ← hF.mem hv]
    constructor
    · rintro ⟨_, h1, h2⟩; exact ⟨h2, h1⟩
    · rintro ⟨h1, h2⟩; exact ⟨hF.bd v k hv a h1, h2, h1⟩
  simp only [immR, hv, dueI]
  refine hF.imm hv (fun x h => h) hmem fun a ha => ?_
  simp only [decide_eq_true_eq, List.length_eq_zero_iff, List.filter_eq_nil_iff]
  constructor
  · intro h c hc
    have := h c hc
    have : D c a = true := by simpa using this
    exact .inr ((hD c a).mp this)
  · intro h c hc
    rcases h c hc with rfl | h
    · have : D c c = true := (hD c c).mpr fun r => r.ne rfl
      simp [this]
    · have : D c a = true := (hD c a).mpr h
      simp [this]
theorem due_bd {D : Nat → Nat → Bool} {n v : Nat} (hn : n ≤ 100) : (dueI D n v).natAbs < 10 ^ 9 := by
  rcases immL_ok (fun a => decide (((ownD D n v).filter fun c => !D c a).length = 0)) (ownD D n v) [] (-1) (.inl ⟨rfl, by simp⟩) with ⟨h, _⟩ | ⟨x, h1, _, h3⟩
  · simp only [dueI, h]; decide
  · simp only [dueI, h3]
    have h1 : x ∈ (List.range n).filter fun a => decide (a ≠ v) && D a v := by simpa [ownD] using h1
    have := List.mem_range.mp (List.mem_filter.mp h1).1
    omega

end Kx
namespace Kx
open Dl PySem
local macro_rules
  | `(tactic| exists $es,*) => `(tactic| simp [ev, evl, tst, its, src, ex, Tg.putS, Tg.put, $[$es:term],*])
/-! ### postdominators: the plain part -/
theorem immS_cong {sz sz' : Nat → Nat} {b : Nat} {U : Nat → Prop} (h : ∀ x y, U x → U y → (sz x < sz y ↔ sz' x < sz' y)) : ∀ (l : List Nat) (m : Int), (∀ x ∈ l, U x) → (m < 0 ∨ U m.toNat) → immS sz b l m = immS sz' b l m
  | [], _, _, _ => rfl
  | x :: r, m, hl, hm => by
    have hx := hl x List.mem_cons_self
    have e : (x ≠ b ∧ (m < 0 ∨ sz m.toNat < sz x)) ↔ (x ≠ b ∧ (m < 0 ∨ sz' m.toNat < sz' x)) := by
      rcases hm with hm | hm
      · simp [hm]
      · rw [h _ _ hm hx]
    simp only [immS, e]
    refine immS_cong h r _ (fun y hy => hl y (List.mem_cons_of_mem _ hy)) ?_
    split
    · exact .inr (by simpa using hx)
    · exact hm
def exQ (nodes : List (List W × End)) (k : Nat) : Bool := match nodes[k]? with
  | some nd => (match nd.2 with | .exit => true | _ => false)
  | none => false
def exL (nodes : List (List W × End)) : List Int := ((List.range nodes.length).filter (exQ nodes)).map fun (k : Nat) => (k : Int)
def peL (nodes : List (List W × End)) : List (List Int) := comeL nodes ++ [exL nodes]
theorem exL_mem {nodes : List (List W × End)} {v : Nat} : (v : Int) ∈ exL nodes ↔ v < nodes.length ∧ exQ nodes v = true := by
  simp only [exL, List.mem_map, List.mem_filter, List.mem_range]
  constructor
  · rintro ⟨x, h, e⟩
    have : x = v := by omega
    subst this; exact h
  · intro h
    exact ⟨v, h, rfl⟩
theorem exL_bd {nodes : List (List W × End)} : (exL nodes).length ≤ nodes.length ∧ ∀ v ∈ exL nodes, 0 ≤ v ∧ v < nodes.length := by
  refine ⟨?_, fun v hv => ?_⟩
  · have := List.length_filter_le (exQ nodes) (List.range nodes.length)
    simpa [exL] using this
  · simp only [exL, List.mem_map, List.mem_filter, List.mem_range] at hv
    obtain ⟨x, h, rfl⟩ := hv
    omega
theorem pe_len {nodes : List (List W × End)} : (peL nodes).length = nodes.length + 1 := by simp [peL, comeL]
theorem fromL_iff {nodes : List (List W × End)} {b x : Nat} : (x : Int) ∈ fromL nodes nodes.length [] b ↔ x < nodes.length ∧ edge (leadL nodes) x b := by
  simp only [fromL, List.not_mem_nil, if_false, List.append_nil, List.mem_map, List.mem_filter, List.mem_range, decide_eq_true_eq]
  constructor
  · rintro ⟨y, h, e⟩
    have : y = x := by omega
    subst this; exact h
  · intro h
    exact ⟨x, h, rfl⟩
theorem pe_edge {nodes : List (List W × End)} {u v : Nat} : edge (peL nodes) u v ↔ (u < nodes.length ∧ v < nodes.length ∧ edge (leadL nodes) v u) ∨ (u = nodes.length ∧ v < nodes.length ∧ exQ nodes v = true) := by
  have hc : (comeL nodes).length = nodes.length := by simp [comeL]
  rcases Nat.lt_trichotomy u nodes.length with h | h | h
  · have e : (peL nodes)[u]? = some (fromL nodes nodes.length [] u) := by
      rw [peL, List.getElem?_append_left (by omega)]
      simp [comeL, h]
    simp only [edge, e, Option.getD_some, fromL_iff]
    constructor
    · rintro ⟨h1, h2⟩; exact .inl ⟨h, h1, h2⟩
    · rintro (⟨_, h1, h2⟩ | ⟨h1, _⟩)
      · exact ⟨h1, h2⟩
      · omega
  · subst h
    have e : (peL nodes)[nodes.length]? = some (exL nodes) := by
      rw [peL, List.getElem?_append_right (by omega)]
      simp [hc]
    have e2 : edge (peL nodes) nodes.length v ↔ (v : Int) ∈ exL nodes := by simp [edge, e]
    rw [e2, exL_mem]
    constructor
    · rintro ⟨h1, h2⟩; exact .inr ⟨rfl, h1, h2⟩
    · rintro (⟨h1, _⟩ | ⟨_, h1, h2⟩)
      · omega
      · exact ⟨h1, h2⟩
  · have e : (peL nodes)[u]? = none := List.getElem?_eq_none (by rw [pe_len]; omega)
    simp only [edge, e, Option.getD_none, List.not_mem_nil, false_iff]
    omega
theorem lead_lt {nodes : List (List W × End)} {u v : Nat} (h : edge (leadL nodes) u v) : u < nodes.length := by
  rcases Nat.lt_or_ge u nodes.length with h1 | h1
  · exact h1
  · have e : (leadL nodes)[u]? = none := List.getElem?_eq_none (by simpa [leadL] using h1)
    simp only [edge, e, Option.getD_none] at h; cases h
theorem Rch.pre {E : Nat → Nat → Prop} {a : Int} {u v x : Nat} (h : Rch E (· = u) a x) (e : E v u) (hv : (v : Int) ≠ a) : Rch E (· = v) a x := by
  induction h with
  | @st y s n => subst s; exact .go (.st rfl hv) e n
  | go _ e2 n ih => exact .go ih e2 n
/-- a way to an exit, seen from both ends -/
theorem rev_ok {nodes : List (List W × End)} (ht : ∀ u v, edge (leadL nodes) u v → v < nodes.length) {a : Int} {b : Nat} (ha : a ≠ nodes.length) (hb : b < nodes.length) : Rch (edge (peL nodes)) (· = nodes.length) a b ↔ ∃ x, x < nodes.length ∧ exQ nodes x = true ∧ Rch (edge (leadL nodes)) (· = b) a x := by
  constructor
  · intro h
    have key : ∀ v, Rch (edge (peL nodes)) (· = nodes.length) a v → v = nodes.length ∨ ∃ x, x < nodes.length ∧ exQ nodes x = true ∧ Rch (edge (leadL nodes)) (· = v) a x := by
      intro v h
      induction h with
      | st s _ => exact .inl s
      | @go u v hu e n ih =>
        rcases pe_edge.mp e with ⟨h1, h2, h3⟩ | ⟨h1, h2, h3⟩
        · rcases ih with ih | ⟨x, x1, x2, x3⟩
          · omega
          · exact .inr ⟨x, x1, x2, x3.pre h3 n⟩
        · exact .inr ⟨v, h2, h3, .st rfl n⟩
    rcases key b h with h | h
    · omega
    · exact h
  · rintro ⟨x, x1, x2, x3⟩
    have key : ∀ y, Rch (edge (leadL nodes)) (· = b) a y → Rch (edge (peL nodes)) (· = nodes.length) a y → Rch (edge (peL nodes)) (· = nodes.length) a b := by
      intro y h
      induction h with
      | st s _ => subst s; exact id
      | @go u y hu e n ih =>
        intro hy
        exact ih (.go hy (pe_edge.mpr (.inl ⟨ht _ _ e, lead_lt e, e⟩)) hu.ne)
    exact key x x3 (.go (.st rfl (by omega)) (pe_edge.mpr (.inr ⟨rfl, x1, x2⟩)) x3.ne)
/-- what says whether there is a way from b to an exit without a -/
def PdOk (Wn : Int → Nat → Bool) (nodes : List (List W × End)) : Prop := ∀ a b, Wn a b = true ↔ Rch (edge (peL nodes)) (· = nodes.length) a b
theorem pd_ex (nodes : List (List W × End)) : ∃ Wn, PdOk Wn nodes := ⟨fun a b => @decide _ (Classical.propDecidable (Rch (edge (peL nodes)) (· = nodes.length) a b)), fun a b => by simp⟩
/-- the immediate ones by the law -/
def ownP (Wn : Int → Nat → Bool) (n v : Nat) : List Nat := (List.range n).filter fun a => decide (a ≠ v) && !Wn a v
def dueP (Wn : Int → Nat → Bool) (n v : Nat) : Int := if Wn (-1) v = true then immL (fun a => decide (((ownP Wn n v).filter fun (c : Nat) => Wn c a && decide (c ≠ a)) = [])) (ownP Wn n v) (-1) else -1
theorem dueP_bd {Wn : Int → Nat → Bool} {n v : Nat} (hn : n ≤ 100) : -1 ≤ dueP Wn n v ∧ dueP Wn n v < n := by
  unfold dueP
  split
  · rcases immL_ok (fun a => decide (((ownP Wn n v).filter fun (c : Nat) => Wn c a && decide (c ≠ a)) = [])) (ownP Wn n v) [] (-1) (.inl ⟨rfl, by simp⟩) with ⟨h, _⟩ | ⟨x, h1, _, h3⟩
    · rw [h]; omega
    · rw [h3]
      have h1 : x ∈ (List.range n).filter fun a => decide (a ≠ v) && !Wn a v := by simpa [ownP] using h1
      have := List.mem_range.mp (List.mem_filter.mp h1).1
      omega
  · omega
/-- the sets without the end -/
structure Cut (n : Nat) (F F' : Nat → Option (List Nat)) : Prop where
  non : ∀ v, v < n → F v = none → F' v = none
  som : ∀ v k, v < n → F v = some k → ∃ k', F' v = some k' ∧ k'.Nodup ∧ ∀ x, x ∈ k' ↔ x ∈ k ∧ x ≠ n
theorem dueP_eq {Wn : Int → Nat → Bool} {nodes : List (List W × End)} (hW : PdOk Wn nodes) {F F' : Nat → Option (List Nat)} (hF : Sets (edge (peL nodes)) (· = nodes.length) (nodes.length + 1) F) (hC : Cut nodes.length F F') {v : Nat} (hv : v < nodes.length) : immR F' v = dueP Wn nodes.length v := by
  unfold dueP
  by_cases hr : Wn (-1) v = true
  · rw [if_pos hr]
    obtain ⟨k, hk, _⟩ := hF.cpl _ _ ((hW _ _).mp hr)
    obtain ⟨k', hk', hnd, hm⟩ := hC.som v k hv hk
    have hmem : ∀ a, a ∈ ownP Wn nodes.length v ↔ a ∈ k' ∧ a ≠ v := by
      intro a
      simp only [ownP, List.mem_filter, List.mem_range, Bool.and_eq_true, decide_eq_true_eq, Bool.not_eq_true']
      rw [hm a, hF.mem hk, ← hW a v]
      have hbd := hF.bd v k hk a
      rw [hF.mem hk, ← hW a v] at hbd
      constructor
      · rintro ⟨h1, h2, h3⟩
        exact ⟨⟨by simp [h3], by omega⟩, h2⟩
      · rintro ⟨⟨h1, h2⟩, h3⟩
        have := hbd h1
        exact ⟨by omega, h3, by simpa using h1⟩
    have hsz : ∀ x, x < nodes.length → (∃ kx, F x = some kx) → szF F' x + 1 = szF F x := by
      rintro x hx ⟨kx, hkx⟩
      obtain ⟨kx', h1, h2, h3⟩ := hC.som x kx hx hkx
      have hn : nodes.length ∈ kx := (hF.mem hkx).mpr fun r => by
        have : ∀ y, ¬ Rch (edge (peL nodes)) (· = nodes.length) (nodes.length : Int) y := by
          intro y r
          induction r with
          | st s n => exact n (by rw [s])
          | go _ _ _ ih => exact ih
        exact this x r
      have a1 := len_sub (a := nodes.length :: kx') (b := kx) (List.nodup_cons.mpr ⟨fun h => ((h3 _).mp h).2 rfl, h2⟩) fun y hy => by
        rcases List.mem_cons.mp hy with rfl | hy
        · exact hn
        · exact ((h3 y).mp hy).1
      have a2 := len_sub (a := kx) (b := nodes.length :: kx') (hF.nd x kx hkx) fun y hy => by
        by_cases e : y = nodes.length
        · rw [e]; exact List.mem_cons_self
        · exact List.mem_cons_of_mem _ ((h3 y).mpr ⟨hy, e⟩)
      simp only [List.length_cons] at a1 a2
      simp only [szF, h1, hkx, Option.getD_some]
      omega
    have h1 : immR F' v = immS (szF F) v k' (-1) := by
      simp only [immR, hk']
      refine immS_cong (U := fun x => x < nodes.length ∧ ∃ kx, F x = some kx) (fun x y hx hy => ?_) k' (-1) (fun x hx => ?_) (.inl (by omega))
      · have := hsz x hx.1 hx.2
        have := hsz y hy.1 hy.2
        omega
      · obtain ⟨h1, h2⟩ := (hm x).mp hx
        have := hF.bd v k hk x h1
        exact ⟨by omega, hF.up hk h1⟩
    rw [h1]
    refine hF.imm hk (fun x hx => ((hm x).mp hx).1) hmem fun a ha => ?_
    simp only [decide_eq_true_eq, List.filter_eq_nil_iff, Bool.and_eq_true, not_and]
    constructor
    · intro h c hc
      by_cases e : c = a
      · exact .inl e
      · exact .inr fun r => h c hc ((hW c a).mpr r) e
    · intro h c hc hw e
      rcases h c hc with h | h
      · exact e h
      · exact h ((hW c a).mp hw)
  · rw [if_neg hr]
    have : F v = none := by
      cases hk : F v with
      | none => rfl
      | some k => exact absurd ((hW _ _).mpr (hF.reach hk)) hr
    simp only [immR, hC.non v hv this]
/-- a comprehension over a list in the heap, by an invariant of the turn -/
theorem compJ_To {t : Tg} {c : Dl.Env → G → R Bool} {el : Dl.Env → G → R W} {ρ : Dl.Env} {i : Nat} {ws : List W} {Q : List W → G → Prop} {X : Nat → G → Prop} {P : Nat → List W → G → Prop} (hat : ∀ j acc g, P j acc g → g[i]? = some (.lst ws))
    (h1 : ∀ j acc g, (hj : j < ws.length) → P j acc g → ∃ ρ1, t.put ws[j] ρ = some ρ1 ∧ (c ρ1 g).To (fun k g1 => match k with
      | false => P (j + 1) acc g1
      | true => (el ρ1 g1).To (fun x g2 => P (j + 1) (acc ++ [x]) g2) noX) noX) (h2 : ∀ acc g, P ws.length acc g → Q acc g) :
    ∀ {m j : Nat} {acc : List W} {g : G}, P j acc g → j ≤ ws.length → ws.length - j < m → (compL t c el ρ (.live i) m j g).To (fun xs g' => Q (acc ++ xs) g') X
  | 0, j, acc, g, _, _, hm => by omega
  | m + 1, j, acc, g, p, hj, hm => by
    have ha : Cur.at_ (.live i) j g = some ws[j]? := by simp [Cur.at_, lstOf, hat j acc g p]
    simp only [compL, ha]
    by_cases hlt : j < ws.length
    · obtain ⟨ρ1, e, h⟩ := h1 j acc g hlt p
      rw [List.getElem?_eq_getElem hlt]
      simp only [e, To_bind, To_nx]
      cases hc : c ρ1 g with
      | err => rw [hc] at h; exact h
      | exc _ _ => rw [hc] at h; exact h.elim
      | ok k g1 =>
        rw [hc] at h
        cases k with
        | false => exact compJ_To hat h1 h2 h hlt (by omega)
        | true =>
          simp only [To_ok, To_bind, To_nx] at h ⊢
          cases he : el ρ1 g1 with
          | err => rw [he] at h; exact h
          | exc _ _ => rw [he] at h; exact h.elim
          | ok x g2 =>
            rw [he] at h
            simp only [To_ok]
            have := compJ_To (X := X) hat h1 h2 (m := m) h hlt (by omega)
            simpa only [List.append_assoc, List.cons_append, List.nil_append] using this
    · have e : j = ws.length := by omega
      subst e
      rw [List.getElem?_eq_none (Nat.le_refl _)]
      simpa using h2 acc g p

end Kx
namespace Kx
open Dl PySem
local macro_rules
  | `(tactic| exists $es,*) => `(tactic| simp [ev, evl, tst, its, src, ex, Tg.putS, Tg.put, $[$es:term],*])
theorem lead_ht {nodes : List (List W × End)} (ht : ∀ nd ∈ nodes, ∀ t ∈ nd.2.tg, 0 ≤ t ∧ t < nodes.length) : ∀ u v, edge (leadL nodes) u v → v < nodes.length := by
  intro u v h
  have hu := lead_lt h
  simp only [edge, leadL_at hu, Option.getD_some] at h
  have := (leadL_ok ht _ (List.mem_map_of_mem (List.getElem_mem hu))).2 v h
  omega
theorem lends_ok {Wn : Int → Nat → Bool} {k lo p p5 b : Nat} {a : Int} {z : SS} {r : G} {refs : List Nat} {nodes : List (List W × End)} (hl : nodes.length ≤ 100) (ht : ∀ nd ∈ nodes, ∀ t ∈ nd.2.tg, 0 ≤ t ∧ t < nodes.length) (hW : PdOk Wn nodes) (hL : LL r lo p refs (leadL nodes)) (h5 : At r p5 (.lst ((exL nodes).map W.int))) (ha : a ≠ nodes.length) (hb : b < nodes.length) :
    callN T (k + 2) 18 [.ref p, .ref p5, .int b, .int a] (hp z r) = .ok (.bl (Wn a b)) (hp z r) := by
  have hn : (leadL nodes).length = nodes.length := by simp [leadL]
  have key : (callN T (k + 2) 18 [.ref p, .ref p5, .int b, .int a] (hp z r)).To (fun w g => w = .bl (Wn a b) ∧ g = hp z r) noX := by
    refine call_To at18 rfl ?_
    by_cases hab : a = b
    · have hw : Wn a b = false := by
        have : ¬ Wn a b = true := fun h => ((hW a b).mp h).ne hab.symm
        simpa using this
      exists Lends_without_t0, Lends_without_0, startE, hab, Lends_without_0a_t0, Lends_without_0a0
      rw [← hab]; exact hw
    · have a0 : At (r ++ [.lst [.int b]]) (r.length + 2) (.lst (([(b : Int)] : List Int).map W.int)) := At.new
      exists Lends_without_t0, Lends_without_0, startE, hab, Lends_without_t1, Lends_without_1
      refine lreached_to (by omega) (hL.ext .app) (fun l h => by rw [hn]; exact leadL_ok ht l h) a0 (fun v hv => by
        have : v = b := by simpa using hv
        omega) (by simp) fun pd keys r' er hpd ad hnd hk hkb => ?_
      have hkl := len_bd hnd hkb
      have h5' := h5.ext (Ext.app.trans er)
      have hne : pd ≠ p5 := by
        have := h5.lt
        simp at hpd
        omega
      have h52 := h5'.set_ne (q := pd) (o' := .fz (kv keys)) hne (by have := ad.1; omega)
      have hc : ∀ ρ : Dl.Env, ρ[1]? = some (some (.ref p5)) → 4 < ρ.length → compV (.nm 4) (tst T (callN T (k + 1)) (.cmp .in_ (.var 4) (.var 1))) (ev T (callN T (k + 1)) (.var 4)) ρ (keys.map fun (x : Nat) => W.int x) (hp z (r'.set (pd - 2) (.fz (kv keys)))) = .ok ((keys.filter fun (x : Nat) => decide ((x : Int) ∈ exL nodes)).map fun (x : Nat) => W.int x) (hp z (r'.set (pd - 2) (.fz (kv keys)))) := by
        intro ρ e1 e4
        rw [compV_filter (f := id) (q := fun x => match x with | .int u => decide (u ∈ exL nodes) | _ => false), List.filter_map, List.map_id]
        · rfl
        · intro x hx
          obtain ⟨u, hu, rfl⟩ := List.mem_map.mp hx
          have e4' : (ρ.set 4 (some (.int (u : Nat))))[4]? = some (some (.int (u : Nat))) := List.getElem?_set_self e4
          have h1 := in_ints (v := u) (h52.get (z := z))
          refine ⟨_, rfl, ?_, fun _ => ?_⟩
          · exists e1, e4', h1, Cop.run, R.of
          · exists e4'
      have hkl2 : (keys.map fun (x : Nat) => W.int x).length ≤ lim := by rw [lim_nat]; simp; omega
      have hkl3 : (kv keys).map (·.1) = keys.map fun (x : Nat) => W.int x := kv_keys keys
      have hkl4 : keys.length ≤ lim := by rw [lim_nat]; omega
      have hput := ad.put (z := z) (o' := .fz (kv keys))
      have hres : decide ((0 : Int) < ((keys.filter fun (x : Nat) => decide ((x : Int) ∈ exL nodes)).length : Int)) = Wn a b := by
        rw [Bool.eq_iff_iff, decide_eq_true_eq, hW a b, rev_ok (lead_ht ht) ha hb]
        have hiff : ∀ x, x ∈ (keys.filter fun (x : Nat) => decide ((x : Int) ∈ exL nodes)) ↔ x < nodes.length ∧ exQ nodes x = true ∧ Rch (edge (leadL nodes)) (· = b) a x := by
          intro x
          rw [List.mem_filter, decide_eq_true_eq, exL_mem, hk x]
          constructor
          · rintro ⟨h1, h2, h3⟩
            exact ⟨h2, h3, h1.cong fun v hv => by have : (v : Int) = b := List.mem_singleton.mp hv; omega⟩
          · rintro ⟨h2, h3, h1⟩
            exact ⟨h1.cong fun v hv => by simp [hv], h2, h3⟩
        constructor
        · intro h
          have h : 0 < (keys.filter fun (x : Nat) => decide ((x : Int) ∈ exL nodes)).length := by omega
          obtain ⟨x, hx⟩ := List.length_pos_iff_exists_mem.mp h
          exact ⟨x, (hiff x).mp hx⟩
        · rintro ⟨x, hx⟩
          have := List.length_pos_of_mem ((hiff x).mpr hx)
          omega
      generalize (keys.filter fun (x : Nat) => decide ((x : Int) ∈ exL nodes)) = fl at hc hres
      generalize hks : (keys.map fun (x : Nat) => W.int x) = ks at *
      generalize kv keys = kk at *
      generalize hr2 : r'.set (pd - 2) (.fz kk) = r2 at *
      have hg : (hp z (r2 ++ [.lst (fl.map fun (x : Nat) => W.int x)]))[r2.length + 2]? = _ := (At.new (r := r2) (o := .lst (fl.map fun (x : Nat) => W.int x))).get
      have hE : Ext r (r2 ++ [.lst (fl.map fun (x : Nat) => W.int x)]) := by
        rw [← hr2]
        refine (((Ext.app).trans er).set ?_).trans .app
        simp at hpd
        omega
      exists ad.get, hput, hkl3, hkl2, wipeE, hc, hg
      refine ⟨by simpa using hres, ?_⟩
      exact gc_ext hE rfl
  obtain ⟨w, g, e, rfl, rfl⟩ := key.ok
  exact e

end Kx
namespace Kx
open Dl PySem
local macro_rules
  | `(tactic| exists $es,*) => `(tactic| simp [ev, evl, tst, its, src, ex, Tg.putS, Tg.put, $[$es:term],*])
/-! ### postdominator_sets -/
theorem cut_take {α : Type} {xs : List α} {n : Nat} (h : n ≤ xs.length) : cutW xs none (some (n : Int)) = xs.take n := by
  simp only [cutW, cutIx]
  rw [if_neg (by omega)]
  simp [Nat.min_eq_left h]
theorem exit_eq (e : End) (g : G) : eqW e.w (.tup [.str [101, 120, 105, 116]]) g = some (match e with | .exit => true | _ => false) := by
  cases e <;> simp [End.w, eqW, scal2, dataOk, eqb, eqbs, lstOf, seqb]
theorem node_pairs (nodes : List (List W × End)) : ((nodes.map nodeW).mapIdx fun (i : Nat) w => W.tup [.int i, w]) = (List.range nodes.length).map fun i => W.tup [.int (i : Nat), ((nodes.map nodeW)[i]?).getD .non] := by
  refine List.ext_getElem (by simp) fun i h1 h2 => ?_
  simp only [List.length_mapIdx, List.length_map] at h1
  simp [h1]
theorem comp_exits {call : CallF} {ρ : Dl.Env} {g : G} (nodes : List (List W × End)) (h : 8 < ρ.length) :
    compV (.tp [7, 8]) (tst T call (.cmp .eq (.idx (.var 8) (.cst (.int (1)))) (.tup (.cons (.cst (.str [101, 120, 105, 116])) .nil)))) (ev T call (.var 7)) ρ ((nodes.map nodeW).mapIdx fun (i : Nat) w => W.tup [.int i, w]) g = .ok ((exL nodes).map W.int) g := by
  rw [node_pairs, compV_filter (f := fun x => match x with | .tup [i, _] => i | w => w) (q := fun x => match x with | .tup [.int i, _] => exQ nodes i.toNat | _ => false)]
  · rw [List.filter_map, List.map_map, exL, List.map_map]
    rfl
  · intro x hx
    obtain ⟨i, hi, rfl⟩ := List.mem_map.mp hx
    have hi := List.mem_range.mp hi
    have e1 : (nodes.map nodeW)[i]? = some (nodeW nodes[i]) := by simp [hi]
    have e7 : ((ρ.set 7 (some (.int (i : Nat)))).set 8 (some (nodeW nodes[i])))[7]? = some (some (.int (i : Nat))) := by rw [List.getElem?_set_ne (by omega), List.getElem?_set_self (by omega)]
    have e8 : ((ρ.set 7 (some (.int (i : Nat)))).set 8 (some (nodeW nodes[i])))[8]? = some (some (nodeW nodes[i])) := List.getElem?_set_self (by simpa using h)
    rw [e1, Option.getD_some]
    refine ⟨(ρ.set 7 (some (.int (i : Nat)))).set 8 (some (nodeW nodes[i])), by simp [Tg.put, setAll], ?_, fun _ => ?_⟩
    · have hq := exit_eq nodes[i].2 g
      simp only [nodeW] at e8
      exists e8, nodeW, Cop.run, hq, R.of, exQ, hi
      all_goals (cases nodes[i].2 <;> rfl)
    · simp only [ev, e7]
theorem pset_to {k : Nat} {z : SS} {r : G} {a b c : W} {nodes : List (List W × End)} {Q : W → G → Prop} {X : Nat → G → Prop} (hl : nodes.length ≤ 60) (h1 : 1 ≤ nodes.length) (ht : ∀ nd ∈ nodes, ∀ t ∈ nd.2.tg, 0 ≤ t ∧ t < nodes.length)
    (H : ∀ lo pf us F F' r', Ext r r' → r.length + 2 ≤ lo → lo ≤ pf → SF r' lo pf nodes.length us F' → Sets (edge (peL nodes)) (· = nodes.length) (nodes.length + 1) F → Cut nodes.length F F' → (∀ v, nodes.length ≤ v → F' v = none) → Q (.ref pf) (hp z r')) : (callN T (k + 4) 5 [.tup [a, b, c, .tup (nodes.map nodeW)]] (hp z r)).To Q X := by
  refine call_To at5 rfl ?_
  exists Fpostdominator_sets_t0, Fpostdominator_sets_0, startE, Fpostdominator_sets_t1, Fpostdominator_sets_1
  refine comes_from_ok (by omega) ht fun r1 e1 hR => ?_
  have hcn : (comeL nodes).length = nodes.length := by simp [comeL]
  have hcl : ∀ l ∈ comeL nodes, l.length ≤ nodes.length + 1 ∧ ∀ v ∈ l, 0 ≤ v ∧ v < nodes.length := by
    intro l hl
    obtain ⟨x, hx, rfl⟩ := List.mem_map.mp hl
    refine ⟨fromL_len nodes nodes.length x [], fun v hv => ?_⟩
    simp only [fromL, List.not_mem_nil, if_false, List.append_nil, List.mem_map, List.mem_filter, List.mem_range] at hv
    obtain ⟨y, ⟨hy, _⟩, rfl⟩ := hv
    omega
  exists hR.top.get, wipeE
  have hle1 := e1.le
  have hb1 : r.length + 2 + nodes.length < r1.length + 2 := hR.top.lt
  generalize hgw : W.tup [a, b, c, .tup (nodes.map nodeW)] = gW
  obtain ⟨P, hP⟩ : ∃ P : Nat → List W → G → Prop, ∀ j acc g, P j acc g ↔ ∃ (rr : G) (rs : List Nat), g = hp z rr ∧ Ext r1 rr ∧ acc = rs.map W.ref ∧ rs.length = j ∧ ∀ (i q : Nat) l, rs[i]? = some q → (comeL nodes)[i]? = some l → At rr q (.lst (l.map W.int)) ∧ r1.length + 2 ≤ q := ⟨_, fun _ _ _ => Iff.rfl⟩
  refine R.To.imp (compJ_To (P := P) (Q := P (comeL nodes).length) (X := noX) (ws := (List.range (comeL nodes).length).map fun k => W.ref (r.length + 2 + k)) ?_ ?_ (fun acc g h => by simpa using h) ((hP _ _ _).mpr ⟨r1, [], rfl, .rfl', rfl, rfl, by simp⟩) (Nat.zero_le _) (by simp [FUEL, lim_nat]; omega)) (fun xs g h => ?_) (fun _ _ h => h.elim)
  · intro j acc g p0
    obtain ⟨rr, rs, rfl, er, rfl, hrl, hrs⟩ := (hP _ _ _).mp p0
    exact (hR.ext er).top.get
  · intro j acc g hj p0
    obtain ⟨rr, rs, rfl, er, rfl, hrl, hrs⟩ := (hP _ _ _).mp p0
    have hjn : j < (comeL nodes).length := by simpa using hj
    have hje : (comeL nodes)[j]? = some (comeL nodes)[j] := List.getElem?_eq_getElem hjn
    have hrow := ((hR.ext er).row j _ hje).get (z := z)
    have hle := er.le
    refine ⟨_, rfl, ?_⟩
    exists hrow, seqOf
    refine (hP _ _ _).mpr ⟨_, rs ++ [rr.length + 2], rfl, er.trans .app, by simp, by simp [hrl], fun i q l hi hli => ?_⟩
    rcases Nat.lt_or_ge i rs.length with h | h
    · rw [List.getElem?_append_left h] at hi
      obtain ⟨b1, b2⟩ := hrs i q l hi hli
      exact ⟨b1.ext .app, b2⟩
    · have hi2 : i = rs.length := by
        have := (List.getElem?_eq_some_iff.mp hi).1
        simp at this; omega
      subst hi2
      simp at hi
      subst hi
      rw [hrl, hje] at hli
      cases hli
      exact ⟨At.new, by omega⟩
  obtain ⟨rr, rs, rfl, er, hxs, hrl, hrs⟩ := (hP _ _ _).mp h
  obtain rfl : xs = rs.map W.ref := by simpa using hxs
  have hlr := er.le
  simp only [hp_app, hp_len]
  generalize er2 : rr ++ [Ob.lst (rs.map W.ref)] = r2
  have e2 : Ext rr r2 := er2 ▸ .app
  have a2 : At r2 (rr.length + 2) (.lst (rs.map W.ref)) := er2 ▸ At.new
  have hrs : ∀ (i q : Nat) l, rs[i]? = some q → (comeL nodes)[i]? = some l → At r2 q (.lst (l.map W.int)) ∧ r1.length + 2 ≤ q ∧ q < rr.length + 2 := fun i q l h1 h2 => ⟨(hrs i q l h1 h2).1.ext e2, (hrs i q l h1 h2).2, (hrs i q l h1 h2).1.lt⟩
  have hE2 := (e1.trans er).trans e2
  generalize hp2 : rr.length + 2 = p2 at a2 hrs ⊢
  clear h er2 hP
  subst hgw
  have hce := comp_exits (call := callN T (k + 3)) (ρ := [some (.tup [a, b, c, .tup (nodes.map nodeW)]), some (.int nodes.length), some (.ref p2), none, none, none, none, none, none]) (g := hp z r2) nodes (by simp)
  have hnl : ((nodes.map nodeW).mapIdx fun (i : Nat) w => W.tup [.int i, w]).length ≤ lim := by rw [lim_nat]; simp; omega
  have hnl2 : nodes.length ≤ lim := by rw [lim_nat]; omega
  exists Fpostdominator_sets_t2, Fpostdominator_sets_2, wipeE, hnl2, hce
  generalize er3 : r2 ++ [_] = r3
  have e3 : Ext r2 r3 := er3 ▸ .app
  have a3 : At r3 (r2.length + 2) (.lst ((exL nodes).map W.int)) := er3 ▸ At.new
  have hp23 : p2 < r2.length + 2 := a2.lt
  have a2 := a2.ext e3
  have hrs : ∀ (i q : Nat) l, rs[i]? = some q → (comeL nodes)[i]? = some l → At r3 q (.lst (l.map W.int)) ∧ r1.length + 2 ≤ q ∧ q < p2 := fun i q l h1 h2 => ⟨(hrs i q l h1 h2).1.ext e3, (hrs i q l h1 h2).2⟩
  have hE3 := hE2.trans e3
  have hle3 := e3.le
  generalize hp3 : r2.length + 2 = p3 at a3 hp23 ⊢
  clear er3 hce
  have hap := a2.append (z := z) (y := .ref p3) (by rw [lim_nat]; simp; omega)
  exists Fpostdominator_sets_t3, Fpostdominator_sets_3, a2.get, hap
  have hLL : LL (r3.set (p2 - 2) (.lst (rs.map W.ref ++ [.ref p3]))) (r1.length + 2) p2 (rs ++ [p3]) (peL nodes) := by
    refine ⟨?_, by rw [pe_len]; simp; omega, fun i q l hi hli => ?_, by omega⟩
    · have := a2.set_self (o' := .lst (rs.map W.ref ++ [.ref p3]))
      simpa using this
    · rcases Nat.lt_or_ge i rs.length with h | h
      · rw [List.getElem?_append_left h] at hi
        rw [peL, List.getElem?_append_left (by omega)] at hli
        obtain ⟨b1, b2, b3⟩ := hrs i q l hi hli
        exact ⟨b1.set_ne (by omega) a2.1, b2⟩
      · have hi2 : i = rs.length := by
          have := (List.getElem?_eq_some_iff.mp hi).1
          simp at this; omega
        subst hi2
        simp at hi
        subst hi
        rw [peL, List.getElem?_append_right (by omega), hrl, Nat.sub_self] at hli
        simp at hli
        subst hli
        exact ⟨a3.set_ne (by omega) a2.1, by omega⟩
  have hE4 := hE3.set (i := p2 - 2) (o := .lst (rs.map W.ref ++ [.ref p3])) (by omega)
  have hlr4 : (r3.set (p2 - 2) (.lst (rs.map W.ref ++ [.ref p3]))).length = r3.length := by simp
  generalize r3.set (p2 - 2) _ = r4 at hLL hE4 hlr4 ⊢
  have hle4 := hE4.le
  exists Fpostdominator_sets_t4, Fpostdominator_sets_4
  rw [show (nodes.length : Int) + 1 = ((nodes.length + 1 : Nat) : Int) by omega]
  refine strict_to (n := nodes.length + 1) (root := nodes.length) (by omega) pe_len (by omega) hLL (fun l h => ?_) fun pf ws F r5 e5 h5 hS hF => ?_
  · rcases List.mem_append.mp h with h | h
    · obtain ⟨c1, c2⟩ := hcl l h
      exact ⟨by omega, fun v hv => by have := c2 v hv; omega⟩
    · have : l = exL nodes := by simpa using h
      subst this
      obtain ⟨c1, c2⟩ := exL_bd (nodes := nodes)
      exact ⟨by omega, fun v hv => by have := c2 v hv; omega⟩
  have hE5 := hE4.trans e5
  have hle5 := e5.le
  have hwl := hS.len
  exists Fpostdominator_sets_t5, Fpostdominator_sets_5
  generalize er6 : r5 ++ [_] = r6
  have e6 : Ext r5 r6 := er6 ▸ .app
  have a6 : At r6 (r5.length + 2) (.lst []) := er6 ▸ At.new
  have hr6l : r6.length = r5.length + 1 := er6 ▸ (by simp)
  have hpf5 := hS.top.lt
  have hS := hS.ext e6
  have hE6 := hE5.trans e6
  generalize hp5 : r5.length + 2 = p5 at a6 hpf5 ⊢
  clear er6 hLL hE2 hE3 hE4 hrs a2 a3
  exists Fpostdominator_sets_t6, Fpostdominator_sets_6, hS.top.get, cut_take (xs := ws) (n := nodes.length) (by omega)
  generalize er7 : r6 ++ [_] = r7
  have e7 : Ext r6 r7 := er7 ▸ .app
  have a7 : At r7 (r6.length + 2) (.lst (ws.take nodes.length)) := er7 ▸ At.new
  have hS := hS.ext e7
  have a6 := a6.ext e7
  have hE7 := hE6.trans e7
  generalize hp7 : r6.length + 2 = p7 at a7 ⊢
  have hp57 : p5 < p7 := by omega
  clear er7
  have hlo5 : r.length + 2 ≤ p5 := by omega
  generalize hlo : r4.length + 2 = lo4 at hS h5
  have hlo4 : r.length + 2 ≤ lo4 := by omega
  obtain ⟨P, hP⟩ : ∃ P : Nat → Dl.Env → G → Prop, ∀ j ρ g, P j ρ g ↔ ∃ (rr : G) (us : List W) (Ks : List (Option (List Nat))) (v6 : Option W), ρ = [some (.tup [a, b, c, .tup (nodes.map nodeW)]), some (.int nodes.length), some (.ref p2), some (.ref p3), some (.ref pf), some (.ref p5), v6, none, none] ∧ g = hp z rr ∧ Ext r rr ∧ p7 < rr.length + 2 ∧ SF rr lo4 pf (nodes.length + 1) ws F ∧ At rr p7 (.lst (ws.take nodes.length)) ∧ At rr p5 (.lst us) ∧ us.length = j ∧ Ks.length = j ∧
      ∀ v, v < j → (F v = none ∧ Ks[v]? = some none ∧ us[v]? = some .non) ∨ ∃ k k' q, F v = some k ∧ Ks[v]? = some (some k') ∧ us[v]? = some (.ref q) ∧ Dk rr q k' ∧ lo4 ≤ q ∧ k'.Nodup ∧ ∀ x, x ∈ k' ↔ x ∈ k ∧ x ≠ nodes.length := ⟨_, fun _ _ _ => Iff.rfl⟩
  refine forJ_To (P := P) (ws := ws.take nodes.length) (by simp [FUEL, lim_nat]; omega) ((hP _ _ _).mpr ⟨r7, [], [], none, rfl, rfl, hE7, a7.lt, hS, a7, a6, rfl, rfl, by simp⟩) ?_ ?_ ?_
  · intro j ρ g p0
    obtain ⟨rr, us, Ks, v6, rfl, rfl, er, hlt, hS, a7, a6, hul, hKl, hR⟩ := (hP _ _ _).mp p0
    exact a7.get
  · intro j ρ g hj p0
    obtain ⟨rr, us, Ks, v6, rfl, rfl, er, hlt, hS, a7, a6, hul, hKl, hR⟩ := (hP _ _ _).mp p0
    have hjn : j < nodes.length := by
      have := List.length_take_le nodes.length ws
      omega
    refine ⟨_, rfl, ?_⟩
    rw [List.getElem_take]
    obtain ⟨w, e4, h4⟩ := hS.at_ (v := j) (by omega)
    have hwj : ws[j]'(by omega) = w := by rw [List.getElem?_eq_getElem (by omega)] at e4; exact Option.some.inj e4
    rw [hwj]
    have fin : ∀ (rr : G) (w' : W) (K : Option (List Nat)), Ext r rr → p7 < rr.length + 2 → SF rr lo4 pf (nodes.length + 1) ws F → At rr p7 (.lst (ws.take nodes.length)) → At rr p5 (.lst us) →
        (∀ v, v < j → (F v = none ∧ Ks[v]? = some none ∧ us[v]? = some .non) ∨ ∃ k k' q, F v = some k ∧ Ks[v]? = some (some k') ∧ us[v]? = some (.ref q) ∧ Dk rr q k' ∧ lo4 ≤ q ∧ k'.Nodup ∧ ∀ x, x ∈ k' ↔ x ∈ k ∧ x ≠ nodes.length) →
        ((F j = none ∧ K = none ∧ w' = .non) ∨ ∃ k k' q, F j = some k ∧ K = some k' ∧ w' = .ref q ∧ Dk rr q k' ∧ lo4 ≤ q ∧ k'.Nodup ∧ ∀ x, x ∈ k' ↔ x ∈ k ∧ x ≠ nodes.length) →
        (exs T (callN T (k + 3)) Fpostdominator_sets_6f_t1 [some (.tup [a, b, c, .tup (nodes.map nodeW)]), some (.int nodes.length), some (.ref p2), some (.ref p3), some (.ref pf), some (.ref p5), some w', none, none] (hp z rr)).To (fun f ρ2 g2 => match f with
          | .nx => P (j + 1) ρ2 g2
          | .cnt => P (j + 1) ρ2 g2
          | .brk => (exs T (callN T (k + 3)) Fpostdominator_sets_t7 ρ2 g2).To (Dl.fin (hp z r) Q) (fun c _ g' => X c (gc (hp z r) .non g'))
          | .ret v => Dl.fin (hp z r) Q (.ret v) ρ2 g2) (fun c _ g' => X c (gc (hp z r) .non g')) := by
      intro rr w' K er hlt hS a7 a6 hR hj'
      have hap := a6.append (z := z) (y := w') (by rw [lim_nat]; omega)
      have hpf : pf < p5 := hpf5
      exists Fpostdominator_sets_6f_t1, Fpostdominator_sets_6f1, a6.get, hap
      have dks : ∀ q k, Dk rr q k → Dk (rr.set (p5 - 2) (.lst (us ++ [w']))) q k := fun q k d => d.set a6
      refine (hP _ _ _).mpr ⟨_, us ++ [w'], Ks ++ [K], _, rfl, rfl, er.set (by omega), by simpa using hlt, ⟨hS.top.set_ne (by omega) a6.1, hS.len, hS.non, fun v kv hv hk => let ⟨q, b1, b2, b3⟩ := hS.som v kv hv hk; ⟨q, b1, dks q kv b2, b3⟩⟩, a7.set_ne (by omega) a6.1, a6.set_self, by simp [hul], by simp [hKl], fun v hv => ?_⟩
      rcases Nat.lt_or_ge v j with h | h
      · rw [List.getElem?_append_left (by omega), List.getElem?_append_left (by omega)]
        rcases hR v h with h | ⟨k1, k2, q, b1, b2, b3, b4, b5⟩
        · exact .inl h
        · exact .inr ⟨k1, k2, q, b1, b2, b3, dks q k2 b4, b5⟩
      · have hvj : v = j := by omega
        subst hvj
        have g1 : (Ks ++ [K])[v]? = some K := by rw [List.getElem?_append_right (by omega)]; simp [hKl]
        have g2 : (us ++ [w'])[v]? = some w' := by rw [List.getElem?_append_right (by omega)]; simp [hul]
        rw [g1, g2]
        rcases hj' with ⟨h1, rfl, rfl⟩ | ⟨k1, k2, q, b1, rfl, rfl, b4, b5⟩
        · exact .inl ⟨h1, rfl, rfl⟩
        · exact .inr ⟨k1, k2, q, b1, rfl, rfl, dks q k2 b4, b5⟩
    rcases h4 with ⟨hFj, rfl⟩ | ⟨q, kj, hFj, rfl, hd, hq⟩
    · have := fin rr .non none er hlt hS a7 a6 hR (.inl ⟨hFj, rfl, rfl⟩)
      exists Fpostdominator_sets_6f_t0, Fpostdominator_sets_6f0
      exact this
    · have hs := hd.src (z := z) (call := callN T (k + 3)) (e := .var 6) (ρ := [some (.tup [a, b, c, .tup (nodes.map nodeW)]), some (.int nodes.length), some (.ref p2), some (.ref p3), some (.ref pf), some (.ref p5), some (.ref q), none, none]) (by exists hd)
      have hkl := len_bd (hF.nd j kj hFj) (hF.bd j kj hFj)
      obtain ⟨c', h1, h2, h3⟩ := dcV_kv (call := callN T (k + 3)) (c := tst T (callN T (k + 3)) (.cmp .ne (.var 8) (.var 1))) (t := fun x => decide (x ≠ nodes.length)) (ρ := [some (.tup [a, b, c, .tup (nodes.map nodeW)]), some (.int nodes.length), some (.ref p2), some (.ref p3), some (.ref pf), some (.ref p5), some (.ref q), none, none]) (i := 8) (g := hp z (rr.set (q - 2) (.fz (kv kj)))) (by simp) kj [] (fun x hx => by
        have he : decide ((x : Int) = nodes.length) = decide (x = nodes.length) := by rw [Bool.eq_iff_iff, decide_eq_true_eq, decide_eq_true_eq]; omega
        exists R.of, he) (by simp)
      have hkl2 : (kj.map fun (x : Nat) => W.int x).length ≤ lim := by rw [lim_nat]; simp; omega
      have hev : ev T (callN T (k + 3)) (.dcomp [8] (.nm 8) (.seq (.var 6)) (.cmp .ne (.var 8) (.var 1)) (.var 8) (.cst (.bl true))) [some (.tup [a, b, c, .tup (nodes.map nodeW)]), some (.int nodes.length), some (.ref p2), some (.ref p3), some (.ref pf), some (.ref p5), some (.ref q), none, none] (hp z rr) = .ok (.ref (rr.length + 2)) (hp z (rr.set (q - 2) (.fz (kv kj)) ++ [.dct (kv c')])) := by
        simp only [kv, List.map_nil] at h1
        simp only [ev] at h1 ⊢
        simp only [hs, ok_bind, if_pos hkl2, wipeE, List.set_cons_succ, List.set_cons_zero]
        simp only [kv] at h1 ⊢
        erw [h1]
        simp
      have er := er.set (i := q - 2) (o := .fz (kv kj)) (by omega)
      have a7 := hd.lst a7
      have a6 := hd.lst a6
      have hS := hS.frz hd
      have hR : ∀ v, v < j → (F v = none ∧ Ks[v]? = some none ∧ us[v]? = some .non) ∨ ∃ k k' q', F v = some k ∧ Ks[v]? = some (some k') ∧ us[v]? = some (.ref q') ∧ Dk (rr.set (q - 2) (.fz (kv kj))) q' k' ∧ lo4 ≤ q' ∧ k'.Nodup ∧ ∀ x, x ∈ k' ↔ x ∈ k ∧ x ≠ nodes.length := fun v hv => by
        rcases hR v hv with h | ⟨k1, k2, q', b1, b2, b3, b4, b5⟩
        · exact .inl h
        · exact .inr ⟨k1, k2, q', b1, b2, b3, b4.frz hd, b5⟩
      have hgl : (rr.set (q - 2) (.fz (kv kj))).length = rr.length := by simp
      rw [← hgl] at hev hlt
      generalize rr.set (q - 2) (.fz (kv kj)) = rf at er a7 a6 hS hR hev hlt
      have a8 : At (rf ++ [.dct (kv c')]) (rf.length + 2) (.dct (kv c')) := At.new
      have := fin (rf ++ [.dct (kv c')]) (.ref (rf.length + 2)) (some c') (er.trans .app) (by simp; omega) (hS.ext .app) (a7.ext .app) (a6.ext .app) (fun v hv => by
        rcases hR v hv with h | ⟨k1, k2, q', b1, b2, b3, b4, b5⟩
        · exact .inl h
        · exact .inr ⟨k1, k2, q', b1, b2, b3, b4.ext .app, b5⟩) (.inr ⟨kj, c', _, hFj, rfl, rfl, .inl a8, by omega, h2, fun x => by rw [h3 x]; simp⟩)
      exists Fpostdominator_sets_6f_t0, Fpostdominator_sets_6f0, Fpostdominator_sets_6f0a_t0
      simp only [Fpostdominator_sets_6f0a0, ex, hev, ok_RSof, Tg.putS, To_go, nxt_nx]
      exact this
  · intro ρ g p0
    obtain ⟨rr, us, Ks, v6, rfl, rfl, er, hlt, hS, a7, a6, hul, hKl, hR⟩ := (hP _ _ _).mp p0
    have htl : (ws.take nodes.length).length = nodes.length := by simp; omega
    rw [htl] at hul hKl hR
    exists Fpostdominator_sets_t7, Fpostdominator_sets_7
    rw [gc_keep (by simp; omega)]
    have hK0 : ∀ v, v < nodes.length → Ks[v]? = some ((Ks[v]?).getD none) := fun v hv => by rw [List.getElem?_eq_getElem (by omega)]; rfl
    refine H lo4 p5 us F (fun v => (Ks[v]?).getD none) rr er hlo4 (by omega) ⟨a6, hul, fun v hv hF' => ?_, fun v kv hv hF' => ?_⟩ hF ⟨fun v hv h => ?_, fun v kv hv h => ?_⟩ fun v hv => by simp [List.getElem?_eq_none (show Ks.length ≤ v by omega)]
    · rcases hR v hv with ⟨b1, b2, b3⟩ | ⟨k1, k2, q, b1, b2, b3, b4, b5, b6⟩
      · exact b3
      · simp only [b2, Option.getD_some] at hF'; cases hF'
    · rcases hR v hv with ⟨b1, b2, b3⟩ | ⟨k1, k2, q, b1, b2, b3, b4, b5, b6⟩
      · simp only [b2, Option.getD_some] at hF'; cases hF'
      · simp only [b2, Option.getD_some, Option.some.injEq] at hF'
        subst hF'
        exact ⟨q, b3, b4, b5⟩
    · rcases hR v hv with ⟨b1, b2, b3⟩ | ⟨k1, k2, q, b1, b2, b3, b4, b5, b6⟩
      · simp [b2]
      · rw [h] at b1; cases b1
    · rcases hR v hv with ⟨b1, b2, b3⟩ | ⟨k1, k2, q, b1, b2, b3, b4, b5, b6, b7⟩
      · rw [h] at b1; cases b1
      · rw [h] at b1
        cases b1
        exact ⟨k2, by simp [b2], b6, b7⟩

end Kx
namespace Kx
open Dl PySem
local macro_rules
  | `(tactic| exists $es,*) => `(tactic| simp [ev, evl, tst, its, src, ex, Tg.putS, Tg.put, $[$es:term],*])
theorem LL.set' {g : G} {lo p i : Nat} {refs : List Nat} {ls : List (List Int)} {o : Ob} (h : LL g lo p refs ls) (hp : p ≠ i) (hq : ∀ q ∈ refs, q ≠ i) (hi : 2 ≤ i) : LL (g.set (i - 2) o) lo p refs ls :=
  ⟨h.top.set_ne (fun e => hp e.symm) hi, h.len, fun k q l h1 h2 => ⟨(h.row k q l h1 h2).1.set_ne (fun e => hq q (List.mem_of_getElem? h1) e.symm) hi, (h.row k q l h1 h2).2⟩, h.lop⟩
theorem LL.lt {g : G} {lo p : Nat} {refs : List Nat} {ls : List (List Int)} (h : LL g lo p refs ls) : ∀ q ∈ refs, q < g.length + 2 := by
  intro q hq
  obtain ⟨i, hi⟩ := List.mem_iff_getElem?.mp hq
  have h1 := (List.getElem?_eq_some_iff.mp hi).1
  have h2 : ls[i]? = some (ls[i]'(by rw [← h.len]; exact h1)) := List.getElem?_eq_getElem _
  exact (h.row i q _ hi h2).1.lt
theorem pdoms_to {Wn : Int → Nat → Bool} {k : Nat} {z : SS} {r : G} {a b c : W} {nodes : List (List W × End)} {Q : W → G → Prop} {X : Nat → G → Prop} (hl : nodes.length ≤ 60) (h1 : 1 ≤ nodes.length) (ht : ∀ nd ∈ nodes, ∀ t ∈ nd.2.tg, 0 ≤ t ∧ t < nodes.length) (hW : PdOk Wn nodes)
    (H : ∀ p' r', Ext r r' → r.length + 2 ≤ p' → At r' p' (.lst (((List.range nodes.length).map (dueP Wn nodes.length)).map W.int)) → Q (.ref p') (hp z r')) : (callN T (k + 5) 6 [.tup [a, b, c, .tup (nodes.map nodeW)]] (hp z r)).To Q X := by
  refine call_To at6 rfl ?_
  exists Fpostdominators_t0, Fpostdominators_0, startE
  refine pset_to hl h1 ht fun lo pf us F F' r' er hlo hpf hS hF hC hbig => ?_
  have hle := er.le
  have hm : ∀ v k', F' v = some k' → k'.length ≤ 100 ∧ ∀ x ∈ k', x < nodes.length ∧ ∃ kx, F' x = some kx := by
    intro v k' hv
    have hvn : v < nodes.length := by
      rcases Nat.lt_or_ge v nodes.length with h | h
      · exact h
      · rw [hbig v h] at hv; cases hv
    cases hFv : F v with
    | none => rw [hC.non v hvn hFv] at hv; cases hv
    | some kk =>
      obtain ⟨k2, e1, e2, e3⟩ := hC.som v kk hvn hFv
      rw [hv] at e1
      cases e1
      have hb : ∀ x ∈ k', x < nodes.length := fun x hx => by
        obtain ⟨h2, h3⟩ := (e3 x).mp hx
        have := hF.bd v kk hFv x h2
        omega
      refine ⟨by have := len_bd e2 hb; omega, fun x hx => ⟨hb x hx, ?_⟩⟩
      obtain ⟨kx, hkx⟩ := hF.up hFv ((e3 x).mp hx).1
      obtain ⟨k3, e4, _⟩ := hC.som x kx (hb x hx) hkx
      exact ⟨k3, e4⟩
  refine immediate_to (by omega) er hlo hS hm fun p' r2 e2 hp' a2 => ?_
  rw [gc_keep (by simp; omega)]
  have he : (List.range nodes.length).map (immR F') = (List.range nodes.length).map (dueP Wn nodes.length) := by
    apply List.map_congr_left
    intro v hv
    exact dueP_eq hW hF hC (List.mem_range.mp hv)
  rw [he] at a2
  exact H p' r2 e2 (by omega) a2
/-! ### region -/
def keyI (keys : List Nat) : List Int := sortI (keys.map fun (x : Nat) => (x : Int))
theorem keyI_eq {a b : List Nat} (ha : a.Nodup) (hb : b.Nodup) (h : ∀ x, x ∈ a ↔ x ∈ b) : keyI a = keyI b := by
  have p : a.Perm b := (List.perm_ext_iff_of_nodup ha hb).mpr h
  exact sorted_uniq ((sortI_perm _).trans ((p.map _).trans (sortI_perm _).symm)) (sortI_sorted _) (sortI_sorted _)
theorem keyI_mem {keys : List Nat} {n : Nat} (h : ∀ v ∈ keys, v < n) : (keyI keys).length = keys.length ∧ ∀ v ∈ keyI keys, 0 ≤ v ∧ v < n := by
  refine ⟨?_, fun v hv => ?_⟩
  · have := (sortI_perm (keys.map fun (x : Nat) => (x : Int))).length_eq
    simpa [keyI] using this
  · have := (sortI_perm (keys.map fun (x : Nat) => (x : Int))).mem_iff.mp hv
    obtain ⟨x, hx, rfl⟩ := List.mem_map.mp this
    have := h x hx
    omega
theorem sorted_kv {g : G} {keys : List Nat} (h : keys.length < 64) : BS.run .sorted ((kv keys).map (·.1)) g = .ok (.ref g.length) (g ++ [.lst ((keyI keys).map W.int)]) := by
  have e : asInts ((kv keys).map (·.1)) = some (keys.map fun (x : Nat) => (x : Int)) := by
    rw [kv_keys]
    have := asInts_map (keys.map fun (x : Nat) => (x : Int))
    rw [List.map_map] at this
    exact this
  simp only [BS.run, e]
  rw [if_pos (by simpa using h)]
  rfl
theorem region_to {Wn : Int → Nat → Bool} {k b0 : Nat} {z : SS} {r : G} {a b c : W} {nodes : List (List W × End)} {Q : W → G → Prop} {X : Nat → G → Prop} (hl : nodes.length ≤ 60) (h1 : 1 ≤ nodes.length) (ht : ∀ nd ∈ nodes, ∀ t ∈ nd.2.tg, 0 ≤ t ∧ t < nodes.length) (hW : PdOk Wn nodes) (hb0 : b0 < nodes.length)
    (H : ∀ p' keys r', Ext r r' → r.length + 2 ≤ p' → At r' p' (.lst ((keyI keys).map W.int)) → keys.Nodup → (∀ v, v ∈ keys ↔ Rch (edge (leadL nodes)) (fun v => (v : Int) ∈ (leadL nodes)[b0]?.getD []) (dueP Wn nodes.length b0) v) → (∀ v ∈ keys, v < nodes.length) → Q (.ref p') (hp z r')) :
    (callN T (k + 6) 7 [.tup [a, b, c, .tup (nodes.map nodeW)], .int b0] (hp z r)).To Q X := by
  refine call_To at7 rfl ?_
  have hln : (leadL nodes).length = nodes.length := by simp [leadL]
  have hlo := leadL_ok ht
  exists Fregion_t0, Fregion_0, startE
  refine leads_to_ok (by omega) fun r1 e1 hR => ?_
  obtain ⟨refs, hL⟩ : ∃ refs, LL r1 (r.length + 2) (r.length + 2 + nodes.length) refs (leadL nodes) := ⟨_, hR.toLL⟩
  have hle1 := e1.le
  generalize r.length + 2 + nodes.length = p2 at hL hR ⊢
  exists Fregion_t1, Fregion_1
  refine pdoms_to hl h1 ht hW fun p6 r2 e2 hp6 a6 => ?_
  have hL := hL.ext e2
  have hp2l := hL.top.lt
  have hql := hL.lt
  have hE2 := e1.trans e2
  have hb0e : (leadL nodes)[b0]? = some (leadL nodes)[b0] := List.getElem?_eq_getElem (by omega)
  simp only [hb0e, Option.getD_some] at H
  obtain ⟨hst2, hstv⟩ := hlo _ (List.getElem_mem (show b0 < (leadL nodes).length by omega))
  generalize (leadL nodes)[b0] = st at hb0e H hst2 hstv
  obtain ⟨stop, hstop⟩ : ∃ stop, dueP Wn nodes.length b0 = stop := ⟨_, rfl⟩
  rw [hstop] at H
  exists a6.get, atW_nat, hb0, hstop, Fregion_t2, Fregion_2, pairW
  generalize er3 : r2 ++ [_] = r3
  have e3 : Ext r2 r3 := er3 ▸ .app
  have af : At r3 (r2.length + 2) (.dct (kv [])) := er3 ▸ At.new
  have hr3l : r3.length = r2.length + 1 := er3 ▸ (by simp)
  have hL := hL.ext e3
  have hE3 := hE2.trans e3
  have hle3 := hE2.le
  obtain ⟨q0, hq0, aq0⟩ := hL.at hb0e
  generalize hpf : r2.length + 2 = pf at af hp2l hql ⊢
  exists Fregion_t3, Fregion_3, hL.top.get, atW_nat, hq0, aq0.get, seqOf
  generalize er4 : r3 ++ [_] = r4
  have e4 : Ext r3 r4 := er4 ▸ .app
  have aw : At r4 (r3.length + 2) (.lst (st.map W.int)) := er4 ▸ At.new
  have af := af.ext e4
  have hL := hL.ext e4
  have hE4 := hE3.trans e4
  generalize hpw : r3.length + 2 = pw at aw ⊢
  have hfw : pf < pw := by omega
  have hfr : r.length + 2 ≤ pf := by omega
  clear er3 er4 aq0 hq0 e1 e2 e3 e4 hR a6 hE2 hE3
  -- what the edges' rows and the two working objects have to do with each other
  obtain ⟨P, hP⟩ : ∃ P : Nat → Dl.Env → G → Prop, ∀ m ρ g, P m ρ g ↔ ∃ (rr : G) (keys : List Nat) (wt : List Int) (v6 : Option W), ρ = [some (.tup [a, b, c, .tup (nodes.map nodeW)]), some (.int b0), some (.ref p2), some (.int stop), some (.ref pf), some (.ref pw), v6] ∧ g = hp z rr ∧ Ext r rr ∧ LL rr (r.length + 2) p2 refs (leadL nodes) ∧ At rr pf (.dct (kv keys)) ∧ At rr pw (.lst (wt.map W.int)) ∧ keys.Nodup ∧ (∀ v ∈ keys, v < nodes.length) ∧ (∀ v ∈ wt, 0 ≤ v ∧ v < nodes.length) ∧
      (∀ v ∈ keys, Rch (edge (leadL nodes)) (fun v => (v : Int) ∈ st) stop v) ∧ (∀ v : Nat, (v : Int) ∈ wt → (v : Int) ≠ stop → Rch (edge (leadL nodes)) (fun v => (v : Int) ∈ st) stop v) ∧ (∀ v : Nat, (v : Int) ∈ st → (v : Int) ≠ stop → v ∈ keys ∨ (v : Int) ∈ wt) ∧ (∀ u ∈ keys, ∀ v : Nat, edge (leadL nodes) u v → (v : Int) ≠ stop → v ∈ keys ∨ (v : Int) ∈ wt) ∧ wt.length + 3 * (nodes.length - keys.length) = m ∧ m ≤ 400 := ⟨_, fun _ _ _ => Iff.rfl⟩
  exists Fregion_t4, Fregion_4
  refine whl_To (P := P) (m := st.length + 3 * nodes.length) ((hP _ _ _).mpr ⟨r4, [], st, none, rfl, rfl, hE4, hL, af, aw, List.nodup_nil, (fun _ h => by simp at h), fun v hv => hstv v hv, (fun _ h => by simp at h), fun v h h2 => .st h h2, fun v h _ => .inr h, (fun _ h => by simp at h), rfl, by omega⟩) (by have : FUEL = 1000000 := rfl; omega) ?_
  intro m ρ g p0
  obtain ⟨rr, keys, wt, v6, rfl, rfl, er, hL, af, aw, hnd, hkb, hwt, hks, hws, hst1, hcl, hm, hm4⟩ := (hP _ _ _).mp p0
  rcases List.eq_nil_or_concat wt with rfl | ⟨L, x, ex⟩
  · have hkl := len_bd hnd hkb
    have hsk := fun g => sorted_kv (g := g) (keys := keys) (by omega)
    have hkv : kvsOf (.ref pf) (hp z rr) = some (kv keys) := by simp [kvsOf, af.get]
    have a9 := At.new (r := rr) (o := .lst ((keyI keys).map W.int))
    exists aw.get, Fregion_t5, Fregion_5, hkv, hsk
    have hle := er.le
    rw [gc_keep (by simp; omega)]
    refine H (rr.length + 2) keys _ (er.trans .app) (by omega) a9 hnd (fun v => ⟨fun hv => hks v hv, fun hv => ?_⟩) hkb
    induction hv with
    | st s nw => simpa using hst1 _ s nw
    | go hu e nw ih => simpa using hcl _ ih _ e nw
  · rw [List.concat_eq_append] at ex
    subst ex
    obtain ⟨x0, x1⟩ := hwt x (by simp)
    obtain ⟨v, rfl⟩ := Int.eq_ofNat_of_zero_le x0
    have hvn : v < nodes.length := by omega
    have haw := At.pop (z := z) aw
    have hf2 := af.lt
    have hw2 := aw.lt
    have hrlen : (rr.set (pw - 2) (.lst (L.map W.int))).length = rr.length := by simp
    have er1 := er.set (i := pw - 2) (o := .lst (L.map W.int)) (by omega)
    have af1 := af.set_ne (q := pw) (o' := .lst (L.map W.int)) (by omega) (by omega)
    have aw1 := aw.set_self (o' := .lst (L.map W.int))
    have hL1 := hL.set' (i := pw) (o := .lst (L.map W.int)) (by omega) (fun q hq => by have := hql q hq; omega) (by omega)
    have hin := in_kv (v := v) (af1.get (z := z))
    have hni : Cop.run .notin (.int v) (.ref pf) (hp z (rr.set (pw - 2) (.lst (L.map W.int)))) = some (!decide (v ∈ keys)) := by simp [Cop.run, hin]
    have hne : (List.map W.int L ++ [W.int (v : Nat)]).isEmpty = false := by cases L <;> rfl
    exists aw.get, hne, Fregion_4w_t0, Fregion_4w0, haw, Fregion_4w_t1, Fregion_4w1
    generalize rr.set (pw - 2) _ = rs at er1 af1 aw1 hin hni hL1 hrlen ⊢
    by_cases hvs : (v : Int) = stop ∨ v ∈ keys
    · have nx : ∃ m', m' < m ∧ P m' [some (.tup [a, b, c, .tup (nodes.map nodeW)]), some (.int b0), some (.ref p2), some (.int stop), some (.ref pf), some (.ref pw), some (.int v)] (hp z rs) := by
        refine ⟨L.length + 3 * (nodes.length - keys.length), by simp at hm; omega, (hP _ _ _).mpr ⟨rs, keys, L, _, rfl, rfl, er1, hL1, af1, aw1, hnd, hkb, fun y hy => hwt y (by simp [hy]), hks, fun y hy => hws y (by simp [hy]), ?_, ?_, rfl, by simp at hm; omega⟩⟩
        · intro y h1 h2
          rcases hst1 y h1 h2 with h | h
          · exact .inl h
          · rcases List.mem_append.mp h with h | h
            · exact .inr h
            · have : y = v := by have := List.mem_singleton.mp h; omega
              subst this
              rcases hvs with hvs | hvs
              · exact absurd hvs h2
              · exact .inl hvs
        · intro u hu y h1 h2
          rcases hcl u hu y h1 h2 with h | h
          · exact .inl h
          · rcases List.mem_append.mp h with h | h
            · exact .inr h
            · have : y = v := by have := List.mem_singleton.mp h; omega
              subst this
              rcases hvs with hvs | hvs
              · exact absurd hvs h2
              · exact .inl hvs
      by_cases hs : (v : Int) = stop
      · exists hs
        rw [← hs] at nx ⊢
        exact nx
      · have hk : v ∈ keys := by
          rcases hvs with h | h
          · exact absurd h hs
          · exact h
        exists hs, hni, hk, R.of
        exact nx
    · have hs : ¬ (v : Int) = stop := fun h => hvs (.inl h)
      have hv : ¬ v ∈ keys := fun h => hvs (.inr h)
      have hve : (leadL nodes)[v]? = some (leadL nodes)[v] := List.getElem?_eq_getElem (by omega)
      obtain ⟨hl2, hlv⟩ := hlo _ (List.getElem_mem (show v < (leadL nodes).length by omega))
      have hed : ∀ y : Nat, edge (leadL nodes) v y ↔ (y : Int) ∈ (leadL nodes)[v] := fun y => by simp [edge, hve]
      generalize (leadL nodes)[v] = l0 at hve hl2 hlv hed
      have hkl := len_bd hnd hkb
      have hfit : (kv keys).length < lim := by rw [lim_nat]; simp [kv]; omega
      have hput : putD (kv keys) (.int v) (.bl true) = kv (keys ++ [v]) := by rw [kv_put, if_neg hv]
      have hlf := af1.lt
      have afs := af1.put (z := z) (o' := .dct (kv (keys ++ [v])))
      have er2 := er1.set (i := pf - 2) (o := .dct (kv (keys ++ [v]))) (by omega)
      have af2 := af1.set_self (o' := .dct (kv (keys ++ [v])))
      have aw2 := aw1.set_ne (q := pf) (o' := .dct (kv (keys ++ [v]))) (by omega) (by omega)
      have hL2 := hL1.set' (i := pf) (o := .dct (kv (keys ++ [v]))) (by omega) (fun q hq => by have := hql q hq; omega) (by omega)
      exists hs, hni, hv, R.of, Fregion_4w1a_t0, Fregion_4w1a0, af1.get, fits, hfit, hput, afs
      generalize rs.set (pf - 2) _ = rt at er2 af2 aw2 hL2 ⊢
      obtain ⟨q, hq, aq⟩ := hL2.at hve
      have hLl : L.length ≤ 400 := by simp at hm; omega
      have hext := At.extend (z := z) aw2 aq (by rw [lim_nat]; simp; omega)
      exists Fregion_4w1a_t1, Fregion_4w1a1, aw2.get, hL2.top.get, atW_nat, hq, hext
      have hnd2 : (keys ++ [v]).Nodup := List.nodup_append.mpr ⟨hnd, by simp, by
        intro a ha b hb e
        have : b = v := by simpa using hb
        subst this e
        exact hv ha⟩
      have hkb2 : ∀ a ∈ keys ++ [v], a < nodes.length := by
        intro a ha
        rcases List.mem_append.mp ha with ha | ha
        · exact hkb a ha
        · have : a = v := by simpa using ha
          omega
      have hlen2 := len_bd hnd2 hkb2
      have hrv : Rch (edge (leadL nodes)) (fun v => (v : Int) ∈ st) stop v := hws v (by simp) hs
      simp only [List.length_append, List.length_cons, List.length_nil] at hlen2
      refine ⟨L.length + l0.length + 3 * (nodes.length - (keys.length + 1)), by simp at hm; omega, (hP _ _ _).mpr ⟨_, keys ++ [v], L ++ l0, _, rfl, rfl, er2.set (by omega), hL2.set' (by omega) (fun q hq => by have := hql q hq; omega) (by omega), af2.set_ne (by omega) (by omega), ?_, hnd2, hkb2, ?_, ?_, ?_, ?_, ?_, by simp, by simp at hm; omega⟩⟩
      · have := aw2.set_self (o' := .lst (L.map W.int ++ l0.map W.int))
        simpa using this
      · intro y hy
        rcases List.mem_append.mp hy with hy | hy
        · exact hwt y (by simp [hy])
        · exact hlv y hy
      · intro y hy
        rcases List.mem_append.mp hy with hy | hy
        · exact hks y hy
        · have : y = v := by simpa using hy
          rw [this]; exact hrv
      · intro y hy hys
        rcases List.mem_append.mp hy with hy | hy
        · exact hws y (by simp [hy]) hys
        · exact .go hrv ((hed y).mpr hy) hys
      · intro y h1 h2
        rcases hst1 y h1 h2 with h | h
        · exact .inl (List.mem_append_left _ h)
        · rcases List.mem_append.mp h with h | h
          · exact .inr (List.mem_append_left _ h)
          · have : y = v := by have := List.mem_singleton.mp h; omega
            subst this; exact .inl (by simp)
      · intro u hu y h1 h2
        rcases List.mem_append.mp hu with hu | hu
        · rcases hcl u hu y h1 h2 with h | h
          · exact .inl (List.mem_append_left _ h)
          · rcases List.mem_append.mp h with h | h
            · exact .inr (List.mem_append_left _ h)
            · have : y = v := by have := List.mem_singleton.mp h; omega
              subst this; exact .inl (by simp)
        · have : u = v := by simpa using hu
          subst this
          exact .inr (List.mem_append_right _ ((hed y).mp h1))

end Kx
namespace Kx
open Dl PySem
local macro_rules
  | `(tactic| exists $es,*) => `(tactic| simp [ev, evl, tst, its, src, ex, Tg.putS, Tg.put, $[$es:term],*])
theorem ints_isr {g : G} {p n : Nat} {l : List Int} (h : At g p (.lst (l.map W.int))) : Isr g (n + 2) (.ref p) (.list (l.map .int)) := by
  refine Isr.lst h (by simp) fun j w d hw hd => ?_
  rw [List.getElem?_map] at hw hd
  cases hj : l[j]? with
  | none => rw [hj] at hw; cases hw
  | some v =>
    rw [hj] at hw hd
    cases hw
    cases hd
    exact Isr.int
theorem ints_shows {l : List Int} (h1 : l.length ≤ 100) (h3 : ∀ v ∈ l, v.natAbs < 10 ^ 9) : Shows 1000000 (.list (l.map .int)) := by
  have : Shows (2 + 100 * 12) (PyData.list (l.map .int)) := by
    refine Shows.list (b := 10) (fun x hx => ?_) (by rw [List.length_map]; omega)
    obtain ⟨v, hv, rfl⟩ := List.mem_map.mp hx
    exact Shows.int (h3 v hv)
  exact ⟨this.1, Nat.le_trans this.2 (by decide)⟩
theorem law_ok : ∀ ns : List Int, ns.length ≤ 63 → ∃ g', Fn.run T (callN T 30) ⟨1, 15, blaw⟩ [.fl (ns.map W.int)] [] = .ok (.bl true) g' := by
  intro ns hns
  have key : (Fn.run T (callN T 30) ⟨1, 15, blaw⟩ [.fl (ns.map W.int)] []).To (fun w g => w = .bl true) noX := by
    refine frun_To rfl ?_
    obtain ⟨z0, hz0⟩ := stream_ok 29 ns
    exists blaw, Flaw_t0, Flaw_0, startE, hz0, Flaw_t1, Flaw_1
    refine draw_to (by decide) (by decide) fun mv z1 m0 m1 => ?_
    have hmv : mv = 0 ∨ mv = 1 := by omega
    obtain ⟨most, hmost, hmo⟩ : ∃ most : Int, atW [W.int 9, W.int 16] mv = some (.int most) ∧ (most = 9 ∨ most = 16) := by
      rcases hmv with rfl | rfl
      · exact ⟨9, rfl, .inl rfl⟩
      · exact ⟨16, rfl, .inr rfl⟩
    exists hmost
    generalize ([.lst [.int 9, .int 16]] : G) = r0
    refine flow_to (by omega) (by omega) (.inl rfl) fun many ps sh nodes z hF => ?_
    have hn1 := hF.n1
    have hn2 := hF.n2
    have hE := hF.ends
    have ht : ∀ nd ∈ nodes, ∀ t ∈ nd.2.tg, 0 ≤ t ∧ t < nodes.length := fun nd h t h2 => by
      have := hE.tg nd.2 (List.mem_map_of_mem h) t h2
      omega
    have hl : nodes.length ≤ 16 := by omega
    obtain ⟨Wn, hW⟩ := pd_ex nodes
    unfold graphW
    exists Flaw_t2, Flaw_2
    refine lleads_to (by omega) fun p3 refs r3 e3 hL => ?_
    have hrl : refs.length = nodes.length := by rw [hL.len]; simp [leadL]
    have l1 := lim_ok (n := nodes.length) (by omega) (by omega)
    have l2 := lim_le (n := nodes.length) (by omega)
    have hex : ∀ ρ : Dl.Env, ρ[2]? = some (some (.tup [psW ps, shW sh, .int many, .tup (nodes.map nodeW)])) → 13 < ρ.length → compV (.nm 13) (tst T (callN T 30) (.cmp .eq (.idx (.idx (.idx (.var 2) (.cst (.int (3)))) (.var 13)) (.cst (.int (1)))) (.tup (.cons (.cst (.str [101, 120, 105, 116])) .nil)))) (ev T (callN T 30) (.var 13)) ρ ((List.range nodes.length).map fun (k : Nat) => W.int k) (hp z r3) = .ok ((exL nodes).map W.int) (hp z r3) := by
      intro ρ e2 e13
      have hx : (exL nodes).map W.int = ((List.range nodes.length).filter (exQ nodes)).map fun (k : Nat) => W.int k := by simp [exL, Function.comp_def]
      rw [hx]
      refine compR_filter fun q hq => ?_
      have e13' : (ρ.set 13 (some (.int q)))[13]? = some (some (.int q)) := List.getElem?_set_self e13
      have hqe := exit_eq nodes[q].2 (hp z r3)
      exists e2, e13', atW_nat, hq, nodeW, Cop.run, hqe, R.of, exQ
      all_goals (cases nodes[q].2 <;> rfl)
    exists Flaw_t3, Flaw_3, hL.top.get, hrl, Flaw_t4, Flaw_4, l1, l2, wipeE, hex
    clear hex
    generalize er : r3 ++ [_] = r4
    have e4 : Ext r3 r4 := er ▸ .app
    have a5 : At r4 (r3.length + 2) (.lst ((exL nodes).map W.int)) := er ▸ At.new
    have hp3 := hL.top.lt
    have hq3 := hL.lt
    have hL := hL.ext e4
    generalize hp5 : r3.length + 2 = p5 at a5 hp3 hq3 ⊢
    clear er e3
    exists Flaw_t5, Flaw_5
    generalize er : r4 ++ [_] = r5
    have e5 : Ext r4 r5 := er ▸ .app
    have a6 : At r5 (r4.length + 2) (.lst []) := er ▸ At.new
    have hp5l := a5.lt
    have hL := hL.ext e5
    have a5 := a5.ext e5
    generalize hp6 : r4.length + 2 = p6 at a6 hp5l ⊢
    clear er e4 e5
    have hp36 : p3 ≠ p6 := by omega
    have hq6 : ∀ q ∈ refs, q ≠ p6 := fun q hq => by have := hq3 q hq; omega
    exists Flaw_t6, Flaw_6, l1, l2
    generalize hg : W.tup [psW ps, shW sh, .int many, .tup (nodes.map nodeW)] = gW
    generalize hlo : r0.length + 2 = lo at hL
    have hle : ∀ (a : Int) (b : Nat) (rr : G), a ≠ nodes.length → b < nodes.length → LL rr lo p3 refs (leadL nodes) → At rr p5 (.lst ((exL nodes).map W.int)) → callN T 30 18 [.ref p3, .ref p5, .int b, .int a] (hp z rr) = .ok (.bl (Wn a b)) (hp z rr) := fun a b rr ha hb hL h5 => lends_ok (k := 28) (by omega) ht hW hL h5 ha hb
    have hpd : ∀ (rr : G) (Q : W → G → Prop) (X : Nat → G → Prop), (∀ p' r', Ext rr r' → rr.length + 2 ≤ p' → At r' p' (.lst (((List.range nodes.length).map (dueP Wn nodes.length)).map W.int)) → Q (.ref p') (hp z r')) → (callN T 30 6 [gW] (hp z rr)).To Q X := fun rr Q X H => by
      rw [← hg]
      exact pdoms_to (k := 25) (by omega) hn1 ht hW H
    have hrg : ∀ (b : Nat) (rr : G) (Q : W → G → Prop) (X : Nat → G → Prop), b < nodes.length → (∀ p' keys r', Ext rr r' → rr.length + 2 ≤ p' → At r' p' (.lst ((keyI keys).map W.int)) → keys.Nodup → (∀ v, v ∈ keys ↔ Rch (edge (leadL nodes)) (fun v => (v : Int) ∈ (leadL nodes)[b]?.getD []) (dueP Wn nodes.length b) v) → (∀ v ∈ keys, v < nodes.length) → Q (.ref p') (hp z r')) → (callN T 30 7 [gW, .int b] (hp z rr)).To Q X := fun b rr Q X hb H => by
      rw [← hg]
      exact region_to (k := 24) (by omega) hn1 ht hW hb H
    have hdb : ∀ v, -1 ≤ dueP Wn nodes.length v ∧ dueP Wn nodes.length v < nodes.length := fun v => dueP_bd (by omega)
    obtain ⟨P, hP⟩ : ∃ P : Nat → Dl.Env → G → Prop, ∀ j ρ g, P j ρ g ↔ ∃ (rr : G) (v7 v8 v9 v10 : Option W), ρ = [some (.fl (ns.map W.int)), some (.ref 1), some gW, some (.ref p3), some (.int nodes.length), some (.ref p5), some (.ref p6), v7, v8, v9, v10, none, none, none, none] ∧ g = hp z rr ∧ LL rr lo p3 refs (leadL nodes) ∧ At rr p5 (.lst ((exL nodes).map W.int)) ∧ At rr p6 (.lst (((List.range j).map (dueP Wn nodes.length)).map W.int)) := ⟨_, fun _ _ _ => Iff.rfl⟩
    refine forR_To (P := P) ((hP _ _ _).mpr ⟨r5, none, none, none, none, rfl, rfl, hL, a5, a6⟩) ?_ ?_
    · intro j ρ g hj p0
      obtain ⟨rr, v7, v8, v9, v10, rfl, rfl, hL, a5, a6⟩ := (hP _ _ _).mp p0
      refine ⟨_, rfl, ?_⟩
      have fin : ∀ (rr : G) (m : Int) (v9 v10 : Option W), LL rr lo p3 refs (leadL nodes) → At rr p5 (.lst ((exL nodes).map W.int)) → At rr p6 (.lst (((List.range j).map (dueP Wn nodes.length)).map W.int)) → m = dueP Wn nodes.length j →
          (exs T (callN T 30) Flaw_6f_t2 [some (.fl (ns.map W.int)), some (.ref 1), some gW, some (.ref p3), some (.int nodes.length), some (.ref p5), some (.ref p6), some (.int j), some (.int m), v9, v10, none, none, none, none] (hp z rr)).To (fun f ρ2 g2 => match f with
            | .nx => P (j + 1) ρ2 g2
            | .cnt => P (j + 1) ρ2 g2
            | .brk => (exs T (callN T 30) Flaw_t7 ρ2 g2).To (Dl.fin [] (fun w g => w = .bl true)) (fun c _ g' => noX c (gc [] .non g'))
            | .ret v => Dl.fin [] (fun w g => w = .bl true) (.ret v) ρ2 g2) (fun c _ g' => noX c (gc [] .non g')) := by
        intro rr m v9 v10 hL a5 a6 e
        subst e
        have hap := a6.append (z := z) (y := .int (dueP Wn nodes.length j)) (by rw [lim_nat]; simp; omega)
        exists Flaw_6f_t2, Flaw_6f2, a6.get, hap
        refine (hP _ _ _).mpr ⟨_, _, _, _, _, rfl, rfl, hL.set' hp36 hq6 a6.1, a5.set_ne (by omega) a6.1, ?_⟩
        have := a6.set_self (o' := .lst (((List.range j).map (dueP Wn nodes.length)).map W.int ++ [.int (dueP Wn nodes.length j)]))
        rw [List.range_succ]
        simpa using this
      have hw1 := hle (-1) j rr (by omega) hj hL a5
      cases hr : Wn (-1) j with
      | false =>
        rw [hr] at hw1
        have := fin rr (-1) v9 v10 hL a5 a6 (by simp [dueP, hr])
        exists Flaw_6f_t0, Flaw_6f0, Flaw_6f_t1, Flaw_6f1, hw1
        exact this
      | true =>
        rw [hr] at hw1
        have hown : ∀ ρ : Dl.Env, ρ[3]? = some (some (.ref p3)) → ρ[5]? = some (some (.ref p5)) → ρ[7]? = some (some (.int j)) → 10 < ρ.length → compV (.nm 10) (tst T (callN T 30) (.and (.cmp .ne (.var 10) (.var 7)) (.not (.call 18 (.cons (.var 3) (.cons (.var 5) (.cons (.var 7) (.cons (.var 10) .nil)))))))) (ev T (callN T 30) (.var 10)) ρ ((List.range nodes.length).map fun (k : Nat) => W.int k) (hp z rr) = .ok ((ownP Wn nodes.length j).map fun (k : Nat) => W.int k) (hp z rr) := by
          intro ρ e3 e5 e7 e10
          refine compR_filter fun q hq => ?_
          have e10' : (ρ.set 10 (some (.int q)))[10]? = some (some (.int q)) := List.getElem?_set_self e10
          have h1 := hle q j rr (by omega) hj hL a5
          by_cases hqj : q = j
          · subst hqj
            exists e3, e5, e7, e10'
          · have hqj' : ¬ (q : Int) = j := by omega
            exists e3, e5, e7, e10', hqj, hqj', h1
        have hdue : immL (fun a => decide (((ownP Wn nodes.length j).filter fun (c : Nat) => Wn c a && decide (c ≠ a)) = [])) (ownP Wn nodes.length j) (-1) = dueP Wn nodes.length j := by simp [dueP, hr]
        have hob : ∀ a ∈ ownP Wn nodes.length j, a < nodes.length := fun a ha => List.mem_range.mp (List.mem_filter.mp ha).1
        have hol : (ownP Wn nodes.length j).length ≤ nodes.length := by have := List.length_filter_le (fun (a : Nat) => decide (a ≠ j) && !Wn a j) (List.range nodes.length); simpa [ownP] using this
        generalize ownP Wn nodes.length j = own at hown hdue hol hob
        exists Flaw_6f_t0, Flaw_6f0, Flaw_6f_t1, Flaw_6f1, hw1, Flaw_6f1a_t0, Flaw_6f1a0, l1, l2, wipeE, hown
        generalize er : rr ++ [_] = ra
        have ea : Ext rr ra := er ▸ .app
        have a9 : At ra (rr.length + 2) (.lst (own.map fun (k : Nat) => W.int k)) := er ▸ At.new
        have hL := hL.ext ea
        have a5 := a5.ext ea
        have a6 := a6.ext ea
        generalize rr.length + 2 = p9 at a9 ⊢
        clear er ea hown
        exists Flaw_6f1a_t1, Flaw_6f1a1, a9.get
        obtain ⟨P2, hP2⟩ : ∃ P2 : Nat → Dl.Env → G → Prop, ∀ i ρ g, P2 i ρ g ↔ ∃ (rr : G) (m : Int) (v10 : Option W), ρ = [some (.fl (ns.map W.int)), some (.ref 1), some gW, some (.ref p3), some (.int nodes.length), some (.ref p5), some (.ref p6), some (.int j), some (.int m), some (.ref p9), v10, none, none, none, none] ∧ g = hp z rr ∧ LL rr lo p3 refs (leadL nodes) ∧ At rr p5 (.lst ((exL nodes).map W.int)) ∧ At rr p6 (.lst (((List.range j).map (dueP Wn nodes.length)).map W.int)) ∧ At rr p9 (.lst (own.map fun (k : Nat) => W.int k)) ∧ immL (fun a => decide ((own.filter fun (c : Nat) => Wn c a && decide (c ≠ a)) = [])) (own.drop i) m = dueP Wn nodes.length j := ⟨_, fun _ _ _ => Iff.rfl⟩
        refine forJ_To (P := P2) (ws := own.map fun (k : Nat) => W.int k) (by simp [FUEL, lim_nat]; omega) ((hP2 _ _ _).mpr ⟨ra, -1, v10, rfl, rfl, hL, a5, a6, a9, by simpa using hdue⟩) ?_ ?_ ?_
        · intro i ρ g p0
          obtain ⟨rr, m, v10, rfl, rfl, hL, a5, a6, a9, him⟩ := (hP2 _ _ _).mp p0
          exact a9.get
        · intro i ρ g hi p0
          obtain ⟨rr, m, v10, rfl, rfl, hL, a5, a6, a9, him⟩ := (hP2 _ _ _).mp p0
          have hio : i < own.length := by simpa using hi
          refine ⟨_, rfl, ?_⟩
          rw [List.drop_eq_getElem_cons hio] at him
          simp only [immL] at him
          simp only [List.getElem_map]
          have hab := hob _ (List.getElem_mem hio)
          generalize own[i] = a at him hab
          have hc : ∀ ρ : Dl.Env, ρ[3]? = some (some (.ref p3)) → ρ[5]? = some (some (.ref p5)) → ρ[10]? = some (some (.int a)) → 14 < ρ.length → compL (.nm 14) (tst T (callN T 30) (.and (.call 18 (.cons (.var 3) (.cons (.var 5) (.cons (.var 10) (.cons (.var 14) .nil))))) (.cmp .ne (.var 14) (.var 10)))) (ev T (callN T 30) (.var 14)) ρ (.live p9) FUEL 0 (hp z rr) = .ok ((own.filter fun (c : Nat) => Wn c a && decide (c ≠ a)).map fun (k : Nat) => W.int k) (hp z rr) := by
            intro ρ e3 e5 e10 e14
            rw [compL_filter (ws := own.map fun (k : Nat) => W.int k) (f := id) (q := fun x => match x with | .int u => Wn u a && decide (u.toNat ≠ a) | _ => false) a9.get ?_ (by simp [FUEL, lim_nat]; omega) (Nat.zero_le _), List.drop_zero, List.filter_map, List.map_id]
            · rfl
            · intro x hx
              obtain ⟨u, hu, rfl⟩ := List.mem_map.mp hx
              have hun := hob u hu
              have e14' : (ρ.set 14 (some (.int (u : Nat))))[14]? = some (some (.int (u : Nat))) := List.getElem?_set_self e14
              have h1 := hle u a rr (by omega) hab hL a5
              have hue : decide ((u : Int) = a) = decide (u = a) := by rw [Bool.eq_iff_iff, decide_eq_true_eq, decide_eq_true_eq]; omega
              refine ⟨_, rfl, ?_, fun _ => ?_⟩
              · cases hwu : Wn u a with
                | true =>
                  rw [hwu] at h1
                  exists e3, e5, e10, e14', h1, R.of, hue, hwu
                | false =>
                  rw [hwu] at h1
                  exists e3, e5, e10, e14', h1, R.of, hue, hwu
              · exists e14'
          generalize hfl : (own.filter fun (c : Nat) => Wn c a && decide (c ≠ a)) = fl at hc
          exists Flaw_6f1a1f_t0, Flaw_6f1a1f0, a9.get, wipeE, hc
          generalize er : rr ++ [_] = rb
          have ea : Ext rr rb := er ▸ .app
          have a8 : At rb (rr.length + 2) (.lst (fl.map fun (k : Nat) => W.int k)) := er ▸ At.new
          have hL := hL.ext ea
          have a5 := a5.ext ea
          have a6 := a6.ext ea
          have a9 := a9.ext ea
          by_cases hz : fl = []
          · rw [if_pos (decide_eq_true (hfl.trans hz))] at him
            exists show rb[rr.length]? = _ from a8.2, hz, Flaw_6f1a1f0a_t0, Flaw_6f1a1f0a0
            exact (hP2 _ _ _).mpr ⟨rb, a, _, rfl, rfl, hL, a5, a6, a9, him⟩
          · rw [if_neg (fun h => hz (hfl.symm.trans (of_decide_eq_true h)))] at him
            exists show rb[rr.length]? = _ from a8.2, hz
            exact (hP2 _ _ _).mpr ⟨rb, m, _, rfl, rfl, hL, a5, a6, a9, him⟩
        · intro ρ g p0
          obtain ⟨rr, m, v10, rfl, rfl, hL, a5, a6, a9, him⟩ := (hP2 _ _ _).mp p0
          rw [List.length_map, List.drop_length] at him
          simp only [immL] at him
          have := fin rr m (some (.ref p9)) v10 hL a5 a6 him
          exists nxt_nx
          exact this
    · intro ρ g p0
      obtain ⟨rr, v7, v8, v9, v10, rfl, rfl, hL, a5, a6⟩ := (hP _ _ _).mp p0
      have hdll : ((List.range nodes.length).map (dueP Wn nodes.length)).length = nodes.length := by simp
      have hdlb : ∀ v ∈ (List.range nodes.length).map (dueP Wn nodes.length), v.natAbs < 10 ^ 9 := by
        intro v hv
        obtain ⟨x, _, rfl⟩ := List.mem_map.mp hv
        have := hdb x
        omega
      have hdg : ∀ j, j < nodes.length → (((List.range nodes.length).map (dueP Wn nodes.length)).map W.int)[j]? = some (.int (dueP Wn nodes.length j)) := fun j hj => by simp [hj]
      generalize (List.range nodes.length).map (dueP Wn nodes.length) = dl at a6 hpd hdll hdlb hdg
      have hsh := ints_shows (by omega) hdlb
      have hr2 := fun (rr : G) (a6 : At rr p6 (.lst (dl.map W.int))) => repr_ref0 (z := z) (ints_isr (n := 58) a6) hsh
      exists Flaw_t7, Flaw_7
      refine hpd rr _ _ fun p11 r6 e6 h6 a11 => ?_
      have a6 := a6.ext e6
      have hL := hL.ext e6
      have hr1 := repr_ref0 (z := z) (ints_isr (n := 58) a11) hsh
      have hr3 := hr2 r6 a6
      exists hr1, hr3, Flaw_t8, Flaw_8, l1, l2
      obtain ⟨P3, hP3⟩ : ∃ P3 : Nat → Dl.Env → G → Prop, ∀ i ρ g, P3 i ρ g ↔ ∃ (rr : G) (v7 v11 v12 : Option W), ρ = [some (.fl (ns.map W.int)), some (.ref 1), some gW, some (.ref p3), some (.int nodes.length), some (.ref p5), some (.ref p6), v7, v8, v9, v10, v11, v12, none, none] ∧ g = hp z rr ∧ LL rr lo p3 refs (leadL nodes) ∧ At rr p6 (.lst (dl.map W.int)) := ⟨_, fun _ _ _ => Iff.rfl⟩
      refine forR_To (P := P3) ((hP3 _ _ _).mpr ⟨r6, v7, none, none, rfl, rfl, hL, a6⟩) ?_ ?_
      · intro i ρ g hi p0
        obtain ⟨rr, v7, v11, v12, rfl, rfl, hL, a6⟩ := (hP3 _ _ _).mp p0
        have hln : (leadL nodes).length = nodes.length := by simp [leadL]
        have hie : (leadL nodes)[i]? = some (leadL nodes)[i] := List.getElem?_eq_getElem (by omega)
        obtain ⟨hst2, hstv⟩ := leadL_ok ht _ (List.getElem_mem (show i < (leadL nodes).length by omega))
        have hdi := hdg i hi
        refine ⟨_, rfl, ?_⟩
        exists Flaw_8f_t0, Flaw_8f0
        refine hrg i rr _ _ hi fun p11 keys1 r7 e7 h7 a11 hnd1 hk1 hb1 => ?_
        have hL := hL.ext e7
        have a6 := a6.ext e7
        have hkl1 := len_bd hnd1 hb1
        obtain ⟨q, hq, aq⟩ := hL.at hie
        have hsh1 : Shows 1000000 (.list ((keyI keys1).map .int)) := ints_shows (by have := (keyI_mem hb1).1; omega) fun v hv => by have := (keyI_mem hb1).2 v hv; omega
        have hr1 := fun (rr : G) (a : At rr p11 (.lst ((keyI keys1).map W.int))) => repr_ref0 (z := z) (ints_isr (n := 58) a) hsh1
        have hr11 := hr1 r7 a11
        exists Flaw_8f_t1, Flaw_8f1, hr11, hL.top.get, atW_nat, hq, a6.get, hdi
        refine lreached_to (k := 29) (by omega) hL (fun l h => by rw [hln]; exact leadL_ok ht l h) aq (fun v hv => by rw [hln]; exact hstv v hv) (by omega) fun pd keys2 r8 e8 h8 ad hnd2 hk2 hb2 => ?_
        have hkl2 := len_bd hnd2 hb2
        have hsame : keyI keys2 = keyI keys1 := keyI_eq hnd2 hnd1 fun x => by
          rw [hk2 x, hk1 x, hie, Option.getD_some]
        have hkv : kvsOf (.ref pd) (hp z r8) = some (kv keys2) := by simp [kvsOf, ad.get]
        have hsk := fun g => sorted_kv (g := g) (keys := keys2) (by omega)
        have a9 := At.new (r := r8) (o := .lst ((keyI keys2).map W.int))
        rw [hsame] at a9 hsk
        have e9 : Ext r7 (r8 ++ [.lst ((keyI keys1).map W.int)]) := e8.trans .app
        have hr12 := repr_ref0 (z := z) (ints_isr (n := 58) a9) hsh1
        have hL := hL.ext e9
        have a6 := a6.ext e9
        have a11 := a11.ext e9
        exists hkv, hsk
        generalize r8 ++ [.lst ((keyI keys1).map W.int)] = r9 at hr12 hL a6 a11 ⊢
        exists hr12, Flaw_8f_t2, Flaw_8f2
        refine hrg i r9 _ _ hi fun p12 keys3 r10 e10 h10 a12 hnd3 hk3 hb3 => ?_
        have hkl3 := len_bd hnd3 hb3
        have hlp := hL.top.lt
        have hlq := hL.lt
        have hl6 := a6.lt
        have hl11 := a11.lt
        have hap := a12.append (z := z) (y := .int 0) (by rw [lim_nat]; have := (keyI_mem hb3).1; simp; omega)
        have hL := (hL.ext e10).set' (i := p12) (o := .lst ((keyI keys3).map W.int ++ [.int 0])) (by omega) (fun q hq => by have := hlq q hq; omega) (by omega)
        have a6 := (a6.ext e10).set_ne (q := p12) (o' := .lst ((keyI keys3).map W.int ++ [.int 0])) (by omega) (by omega)
        have a11 := (a11.ext e10).set_ne (q := p12) (o' := .lst ((keyI keys3).map W.int ++ [.int 0])) (by omega) (by omega)
        exists Flaw_8f_t3, Flaw_8f3, a12.get, hap
        generalize r10.set (p12 - 2) _ = r11 at hL a6 a11 ⊢
        have hr13 := hr1 r11 a11
        exists Flaw_8f_t4, Flaw_8f4, hr13
        refine hrg i r11 _ _ hi fun p13 keys4 r12 e12 h12 a13 hnd4 hk4 hb4 => ?_
        have hsame2 : keyI keys4 = keyI keys1 := keyI_eq hnd4 hnd1 fun x => by rw [hk4 x, hk1 x]
        rw [hsame2] at a13
        have hr14 := repr_ref0 (z := z) (ints_isr (n := 58) a13) hsh1
        exists hr14
        exact (hP3 _ _ _).mpr ⟨r12, _, _, _, rfl, rfl, hL.ext e12, a6.ext e12⟩
      · intro ρ g p0
        obtain ⟨rr, v7, v11, v12, rfl, rfl, hL, a6⟩ := (hP3 _ _ _).mp p0
        exists Flaw_t9, Flaw_9
  obtain ⟨w, g, e, rfl⟩ := key.ok
  exact ⟨g, e⟩

end Kx
namespace Kx
open PySem L2 Dl
def names0 : List PySem.Str := [("ends_of" : PySem.Str), ("leads_to" : PySem.Str), ("comes_from" : PySem.Str), ("strict_sets" : PySem.Str), ("immediate" : PySem.Str), ("postdominator_sets" : PySem.Str), ("postdominators" : PySem.Str), ("region" : PySem.Str), ("_law_stream" : PySem.Str), ("_law_draw" : PySem.Str), ("_law_word" : PySem.Str), ("_law_frame" : PySem.Str), ("_law_kinds" : PySem.Str), ("_law_instruction" : PySem.Str), ("_law_ends" : PySem.Str), ("_law_flow" : PySem.Str), ("_law_leads" : PySem.Str), ("_law_reached" : PySem.Str), ("_law_ends_without" : PySem.Str)]
def names : List PySem.Str := names0
abbrev R : PySem.W.OpenRow := PySem.W.OpenLaw.row PySem.Challenge.rw_drawloom_k27_postdominators
abbrev hk : PySem.W.Hook := He.hookX 4 (g.fa ++ [He.Fa.glo "law"]) (g.fns.map (·.d) ++ [flaw.d]) g.ts [] g.ex
def ob (s : PySem.W.SharedT) : He.AlX := He.obsX 4 (g.fa ++ [He.Fa.glo "law"]) (g.fns.map (·.d) ++ [flaw.d]) g.ts [] g.ex (HandSHeadRun.getT s)
theorem ob_eq (s : PySem.W.SharedT) : ob s = hk.obs s.abs := He.obsX_eq (HandSHeadRun.getT_eq s)
theorem run (w : World) : HandSHeadRun.RunEq R (PySem.W.view R.prog [22]) hk ob 20000 names w := by
  intro os
  kernel_rfl
end Kx
open PySem PySem.W PySem.Calls PyProof.Rows
theorem PySem.Challenge.cw_drawloom_k27_postdominators_holds : PySem.Challenge.rw_drawloom_k27_postdominators.Holds := by
  w_on; o_law
  refine HandSHeadRun.head_any (r := Kx.R) (q := PySem.W.view Kx.R.prog [22]) (H := Kx.hk) (ob := Kx.ob) (M := 20000) (loose := Kx.names) (d := HandSHeadRun.topDef Kx.R.prog 22) (kwd := []) Kx.ob_eq
    (by kernel_rfl) (fun s => by kernel_rfl) Kx.run (by kernel_rfl) (by kernel_rfl) (by kernel_rfl) (by rfl) (by first | assumption | decide +kernel) (by decide +kernel) ⟨rfl, rfl, rfl, rfl, rfl, by decide +kernel⟩ ?hw ?hc
  case hw => w_witness2
  case hc =>
    refine Dl.walk_t (l := PySem.Challenge.rw_drawloom_k27_postdominators) (top := 63) (k := 30) (x := "_law_script") (g := Kx.g) (fl := Kx.flaw) (T := Kx.T) rfl (by decide) (by kernel_rfl) ⟨rfl, by decide, by decide⟩ Kx.T_eq Kx.law_c rfl ?F Kx.law_ok
    intro w mg f h Y G hmg0
    obtain ⟨K, KX, c⟩ := Y
    have hmg : mg ("law" : PySem.Str) = some (.ref f) := by
      have e : (HandSHeadRun.topDef Kx.R.prog 22).name = ("law" : PySem.Str) := by kernel_rfl
      rw [← e]
      exact hmg0
    have t := Dl.told_of Kx.g_ok (fun f hf => List.mem_append_left _ hf) Dl.dfs_of KX G c
    have hf : He.fAd K ("law", none) = f := by
      have e := hmg.symm.trans (He.glo_ok (x := "law") KX G (c.t.d.facts (List.mem_append_right _ (List.mem_singleton.mpr rfl))))
      cases e
      rfl
    obtain ⟨fd, F⟩ := Dl.law_def (fl := Kx.flaw) c
    exact ⟨K, fd, KX, hf ▸ F, t⟩

