import PyProof.Rows.All
import Wide.All
import OpenK.AllK
import Wide.FinOn
import KE.GoesMore
import HandS.ForMost
import HandS.TupMul
import HandS.Style
import HandS.Wide
import HandS.IsInst
import HandS.TupAny
import HandS.Deep
import HandS.Zip
import KE.KExcIs
import KE.KExcInit
import HandS.ExcInit
import HandS.ExcField
import HandS.ExcValue
import PyProof.ExcBaseAll.RuntimeError
import PyProof.ExcBaseAll.OverflowError
import PyProof.ExcBaseAll.LookupError
import KE.KExcLine
import PySem.Challenge.RW_rungshare_k06_whole_shares_and_errors
set_option Elab.async false
set_option linter.all false
set_option maxRecDepth 100000
set_option maxHeartbeats 4000000
/-! enumerate(tuple), tuple * n for every n of 0 and more, tuple[::-1] -/
namespace RS
open PySem PySem.Spec PyProof.Rows L2

/-! ### enumerate(t) -/
theorem meets_enumerate_newT (t : Addr) (items : Array Value) :
    Meets (Builtin.«enumerate.__new__» ⟨[.type "enumerate", .ref t], []⟩) (fun _ R s => s.heap.IsTuple t items ∧
      R (.ok (.ret (.ref (s.heap.push { cls := .type "tuple_iterator", data := .fields #[.ref t, .int 0 0] }).objs.size)))
        { s with heap := (s.heap.push { cls := .type "tuple_iterator", data := .fields #[.ref t, .int 0 0] }).push { cls := .type "enumerate", data := .fields #[.none, .bool false, .ref s.heap.objs.size, rawInt 0, .none, .none] } }) :=
  .of_wp fun prog w A R s h => by
    obtain ⟨hp, g, d, tk, os⟩ := s; obtain ⟨hL, h⟩ := h
    have hsub := sub_enumerate
    have q1 : ∀ {A' : Around} {E : Value → Shared → Prop} {Q : Value → Shared → Prop}, Q (.ref hp.objs.size) ⟨hp.push { cls := .type "tuple_iterator", data := .fields #[.ref t, .int 0 0] }, g, d, tk, os⟩ → wpAny (model prog w) A' (pyIter (.ref t)) Q E ⟨hp, g, d, tk, os⟩ :=
      fun q => wpAny_pyIter_tuple hL q
    wp_walk using q1
    refine wpAny_stack_any fun st => wpAny_pure ?_
    split
    · rename_i c _ _ _ _ _
      cases (c == Value.type "enumerate")
      · wp_walk using q1
        exact ⟨_, rfl, h⟩
      · wp_walk using q1
        exact ⟨_, rfl, h⟩
    · wp_walk using q1
      exact ⟨_, rfl, h⟩
theorem call_enumerate_tuple {prog : Program} {w : World} {A : Around} {E : Value → Shared → Prop} {s : Shared} {l : Addr} {items : Array Value} {Q : Value → Shared → Prop} (hL : s.heap.IsTuple l items)
    (h : ∀ h', IsEnum h' (s.heap.objs.size + 1) s.heap.objs.size 0 .none → h'.IsTupleIter s.heap.objs.size l 0 → h'.objs.size = s.heap.objs.size + 2 →
      (∀ b o, s.heap.get? b = some o → h'.get? b = some o) → Q (.ref (s.heap.objs.size + 1)) { s with heap := h' }) :
    wpAny (model prog w) A (call (.type "enumerate") [.ref l]) Q E s := by
  refine callType_new F.called_enumerate (by decide) (F.typeCall_enumerate_1 _) (F.newCall_enumerate_1 _) (fun obj => F.args_object_init_2 obj _) F.entry_enumerate_new
    (meets_enumerate_newT l items) ⟨hL, ?_⟩
  have hz : (s.heap.push { cls := .type "tuple_iterator", data := .fields #[.ref l, .int 0 0] }).objs.size = s.heap.objs.size + 1 := Heap.size_push ..
  show _ ∧ _
  rw [hz]
  have he : IsEnum ((s.heap.push { cls := .type "tuple_iterator", data := .fields #[.ref l, .int 0 0] }).push
      { cls := .type "enumerate", data := .fields #[.none, .bool false, .ref s.heap.objs.size, rawInt 0, .none, .none] }) (s.heap.objs.size + 1) s.heap.objs.size 0 .none := by
    have := Heap.get?_push_size (s.heap.push { cls := .type "tuple_iterator", data := .fields #[.ref l, .int 0 0] })
      (o := { cls := .type "enumerate", data := .fields #[.none, .bool false, .ref s.heap.objs.size, rawInt 0, .none, .none] }) rfl
    rw [hz] at this; exact this
  refine ⟨⟨_, he, rfl⟩, h _ he ⟨_, Heap.get?_push_of_some _ (Heap.get?_push_size _ rfl), rfl, rfl⟩ (by rw [Heap.size_push, hz]) fun b o x => Heap.get?_push_of_some _ (Heap.get?_push_of_some _ x)⟩

def ItEt (K : PySem.W.Frag) (a : Addr) : It :=
  ⟨fun i H => ∃ (xs : List V) (x : V), SqT K H a xs ∧ xs[i]? = some x, fun i H v H' => ∃ T x, v = .ref T ∧ H T = none ∧ H' = upd H T (.tup [.int (i : Nat), x]) ∧ ∀ xs, SqT K H a xs → xs[i]? = some x, fun i H => ∃ xs : List V, SqT K H a xs ∧ xs.length ≤ i⟩
theorem turn_enumT {P : Program} {w : World} {K : PySem.W.Frag} {elts : List Expr} {kk : Nat} {tpos : Pos} (a e it : Addr) (hae : a ≠ it) :
    Turn P w K (.Tuple elts kk tpos) (ItEt K a) [e, it] e (fun i h => (∃ old, IsEnum h e it ((i : Nat) : Int) old) ∧ h.IsTupleIter it a i ∧ e ≠ it ∧ a ≠ e) where
  mem := by simp
  obj := fun i h st b hb => by
    obtain ⟨⟨old, he⟩, ⟨o, ho, hc, hd⟩, _⟩ := st
    have e' : b = e ∨ b = it := by simpa using hb
    rcases e' with z | z
    · rw [z]; exact ⟨_, he, fun v q => nomatch q⟩
    · rw [z]; exact ⟨o, ho, fun v q => by rw [hd] at q; cases q⟩
  keep := fun i h h' st k => let ⟨⟨old, he⟩, hi, hne⟩ := st; ⟨⟨old, k e (by simp) _ he⟩, hi.at fun o q => k it (by simp) o q, hne⟩
  item := by
    intro X hP hw hK hc i pins s σ H E I hf st hg
    subst hP hw hK
    obtain ⟨⟨old, he⟩, hit, hne, hae2⟩ := st
    obtain ⟨xs, x, hq, hx⟩ := hg
    obtain ⟨its, rv, p, hz⟩ := I.tuple hq
    obtain ⟨u, hu, ru⟩ := rv.get hx
    have hel : e < s.heap.objs.size := Heap.lt_size he
    have hil : it < s.heap.objs.size := by obtain ⟨_, q, _⟩ := hit; exact Heap.lt_size q
    have hlt : i < its.toArray.size := by
      have q := (List.getElem?_eq_some_iff.mp hu).1
      simpa using q
    have D := Draws.tuple (prog := X.prog) (w := X.w) (A := X.A.in1) (I.ok.hd hc) it a hae its.toArray
    refine wpAny_pyNext_enum_itemD D he ⟨hit, p⟩ hlt hne (by simp; exact ⟨hne, Ne.symm hae2⟩) fun y h' tk hy ho hit' hT hsz hk => ?_
    have ey : u = y := by
      have q : its.toArray[i]? = some y := hy
      have q2 : its.toArray[i]? = some u := by simpa using hu
      rw [q2] at q
      exact Option.some.inj q
    subst ey
    refine ⟨_, rfl, wpAny_letOwnedTupleGo_enum (s := { s with heap := h', toks := tk + 1 }) ho fun h'' he' sb => ?_⟩
    have hT2 : h''.get? s.heap.objs.size = some { cls := .type "tuple", data := .seq #[.int i tk, u] } := (sb.2 _ (Nat.ne_of_gt hel)).trans hT
    have new : ObjOk X.prog X.w (upd H s.heap.objs.size (.tup [.int (i : Nat), x])) h'' s.heap.objs.size (.tup [.int (i : Nat), x]) :=
      ⟨by show 2 ≤ sizeLine; decide, [.int i tk, u], .cons ⟨_, rfl⟩ (.cons ru .nil), ⟨_, hT2, rfl, _, rfl⟩⟩
    have I1 : Inv X pins σ (upd H s.heap.objs.size (.tup [.int (i : Nat), x])) { s with heap := h'', toks := tk + 1 } :=
      I.turnedNew (ch := [e, it]) (fun b ob hb q => (sb.2 b (fun z => hb (by simp [z]))).trans (hk b ob (fun z => hb (by simp [z])) (fun z => hb (by simp [z])) q)) hf (Nat.le_refl _) new
    refine ⟨.ref s.heap.objs.size, _, I1, rfl, ⟨_, x, rfl, I.hok.fresh (Nat.le_refl _), rfl, fun ys hy => by rw [I.tuple_inj hy hq]; exact hx⟩, ⟨⟨u, ?_⟩, hit'.1.at fun o q => (sb.2 it (Ne.symm hne)).trans q, hne, hae2⟩, fun b hb => ?_⟩
    · have e1 : ((i + 1 : Nat) : Int) = (i : Int) + 1 := by omega
      rw [e1]; exact he'
    · have hb' : b < s.heap.objs.size := by
        have e' : b = e ∨ b = it := by simpa using hb
        rcases e' with z | z
        · rw [z]; exact hel
        · rw [z]; exact hil
      rw [upd_ne (Nat.ne_of_lt hb')]
      exact (hf b hb).1
  done := by
    intro X hP hw hK hc i pins s σ H E I hf st hg
    subst hP hw hK
    obtain ⟨⟨old, he⟩, hit, hne, hae2⟩ := st
    obtain ⟨xs, hq, hx⟩ := hg
    obtain ⟨its, rv, p, hz⟩ := I.tuple hq
    obtain ⟨f0, f1, f2, f3, f4, f5⟩ := hf it (by simp)
    have hl := rv.length
    have D := Draws.tuple (prog := X.prog) (w := X.w) (A := X.A.in1) (I.ok.hd hc) it a hae its.toArray
    unfold pyNext
    refine wpAny_bind (wpAny_attempt (wpAny_callSpecial?_slot (name := Str.ofString "__next__") (⟨_, he, rfl⟩ : s.TypeIs (.ref e) "enumerate") F.slot_enumerate_next
      (wpAny_call_entry F.slot_enumerate_next ⟨_, he, rfl⟩ F.entry_enumerate_next ?_ (F.args_enumerate_next_1 _))))
    show wpAny _ _ (field (.ref e) 2 >>= _) _ _ _
    refine wpAny_bind (wpAny_field he rfl (x := .ref it) rfl ?_)
    refine wpAny_bind (wpAny_nextOf_tuple_end (I.ok.hd hc) hit (show s.heap.IsTuple a its.toArray from p) (by simp; omega) fun h' x he' hx' => ?_)
    obtain ⟨o, ho, hc'⟩ := hx'
    refine wpAny_bind (wpAny_isInstance (T := "StopIteration") (b := true) ⟨o, ho, hc'⟩ isSubtype_stop ?_)
    exact wpAny_pure ⟨rfl, I.turned (t' := s.toks) (fun b o hb q => he' b o hb q) f0 f1 f3 f4 f5⟩
  self := fun A i s Q E st h => let ⟨⟨_, he⟩, _⟩ := st; wpAny_pyIter_enum he h
def iEnumT (K : PySem.W.Frag) (ta : TA) : TI := fun σ H R => ta σ H fun vs H1 => ∃ a xs, vs = [.ref a] ∧ SqT K H1 a xs ∧ R (ItEt K a) H1
theorem pi_enumT {X : Cx} {e : Expr} {ta : TA} {p pos tpos : Pos} {elts : List Expr} {kk : Nat} (hg : Gl X "enumerate") (hm : X.mg "enumerate" = none) (ha : PA X [e] ta) (hs : starEach [e] X.env = [(false, eval e X.env)] := by rfl) :
    PI X (.Tuple elts kk tpos) (.Call (.Name "enumerate" p) [e] [] pos) (iEnumT X.K ta) := by
  refine ⟨fun pins s σ H R I h => ?_⟩
  refine Call_ (ld_blt I hg hm boot_enumerate (PyProof.Rows.callWith_type1 (thn (ha.run pos pins s σ H _ I h) fun us s1 ⟨vs, H1, I1, r1, q1⟩ => ?_) hs rfl))
  obtain ⟨a, xs, ex, hq, q⟩ := q1
  subst ex
  cases r1 with
  | cons r rr =>
    cases rr
    cases r
    obtain ⟨its, rv, p', hz⟩ := I1.tuple hq
    have hal : a < s1.heap.objs.size := by obtain ⟨_, q, _⟩ := p'; exact Heap.lt_size q
    refine call_enumerate_tuple (show s1.heap.IsTuple a its.toArray from p') fun h' he hit hsz hk => wpAny_pyIter_enum he ?_
    have I2 : Inv X pins σ H1 { s1 with heap := h' } := I1.kept (t' := s1.toks) hk
    refine ⟨s1.heap.objs.size + 1, [s1.heap.objs.size + 1, s1.heap.objs.size], _, _, H1, rfl, I2, turn_enumT a (s1.heap.objs.size + 1) s1.heap.objs.size (Nat.ne_of_lt hal), ⟨⟨.none, he⟩, hit, Nat.succ_ne_self _, Nat.ne_of_lt (Nat.lt_succ_of_lt hal)⟩, fun b hb => ?_, q⟩
    have e' : b = s1.heap.objs.size + 1 ∨ b = s1.heap.objs.size := by simpa using hb
    have hle : s1.heap.objs.size ≤ b := by
      rcases e' with z | z
      · rw [z]; exact Nat.le_add_right _ _
      · rw [z]; exact Nat.le_refl _
    exact I1.fpOk hle (I1.hok.fresh hle)

/-! ### t * 0, t * 1 -/
theorem tuple_mulW_0 (l : Addr) (items : Array Value) (n : Nat) (dd : Option Addr) (sl : Array (Option Value)) (x : Int) (u : Tok) (c0 : (decide (x < -(2 ^ 63)) || decide (x ≥ 2 ^ 63)) = false) (c1 : (items.isEmpty || x == 1) = false) (c2 : (decide (x ≤ 0) || items.isEmpty) = true) :
    Meets (Builtin.«tuple.__mul__» ⟨[.ref l, .int x u], []⟩) (fun _ R s => s.heap.get? l = some { cls := .type "tuple", dict := dd, data := .seq items n, slots := sl } ∧
      R (.ok (.ret (Value.ref s.heap.objs.size))) { s with heap := s.heap.push { cls := Value.type "tuple", data := Data.seq #[] }, toks := s.toks }) :=
  .of_wp fun prog w A R s h => by
    obtain ⟨hp, g, d, tk, os⟩ := s
    obtain ⟨hl, h⟩ := h
    have f1 := AutoSeq1.idx_int
    have hsz : (#[] : Array Value).size ≤ sizeLine := Nat.zero_le _
    wp_walk using wpAny_loadPart' hl
    repeat (first
      | (refine wpAny_ite_false (decide_eq_false (by rw [c0]; exact Bool.false_ne_true)) ?_; wp_walk using wpAny_loadPart' hl)
      | (refine wpAny_ite_false (decide_eq_false (by rw [c1]; exact Bool.false_ne_true)) ?_; wp_walk using wpAny_loadPart' hl)
      | (refine wpAny_ite_true (decide_eq_true c2) ?_; wp_walk using wpAny_loadPart' hl)
      | (refine wpAny_ite_false (decide_eq_false (Nat.not_lt.mpr hsz)) ?_; wp_walk using wpAny_loadPart' hl))
    exact ⟨_, rfl, h⟩
theorem tuple_mulW_1 (l : Addr) (items : Array Value) (n : Nat) (dd : Option Addr) (sl : Array (Option Value)) (x : Int) (u : Tok) (c0 : (decide (x < -(2 ^ 63)) || decide (x ≥ 2 ^ 63)) = false) (c1 : (items.isEmpty || x == 1) = true) :
    Meets (Builtin.«tuple.__mul__» ⟨[.ref l, .int x u], []⟩) (fun _ R s => s.heap.get? l = some { cls := .type "tuple", dict := dd, data := .seq items n, slots := sl } ∧
      R (.ok (.ret (Value.ref l))) s) :=
  .of_wp fun prog w A R s h => by
    obtain ⟨hp, g, d, tk, os⟩ := s
    obtain ⟨hl, h⟩ := h
    have f1 := AutoSeq1.idx_int
    wp_walk using wpAny_loadPart' hl
    repeat (first
      | (refine wpAny_ite_false (decide_eq_false (by rw [c0]; exact Bool.false_ne_true)) ?_; wp_walk using wpAny_loadPart' hl)
      | (refine wpAny_ite_true (decide_eq_true c1) ?_; wp_walk using wpAny_loadPart' hl))
    exact ⟨_, rfl, h⟩
/-- (x, ..) * k, k of 0 and more -/
def rRepA (K : PySem.W.Frag) : R2 := fun x y H Q => ∃ l k xs, x = .ref l ∧ y = .int k ∧ SqT K H l xs ∧ xs ≠ [] ∧ 0 ≤ k ∧ k ≤ 1000 ∧ xs.length ≤ 1000 ∧ (k = 1 → Q (.ref l) H) ∧ (k ≠ 1 → ∀ p, H p = none → Q (.ref p) (upd H p (.tup (List.replicate k.toNat xs).flatten)))
theorem op_repA {X : Cx} : OpR X (binaryOp .Mult) (rRepA X.K) := by
  intro pins s σ H x y v u Q I rx ry h
  obtain ⟨l, k, xs, rfl, rfl, hT, hne, h1, h2, hz, q1, q2⟩ := h
  by_cases hk2 : 2 ≤ k
  · exact op_repT pins s σ H _ _ v u Q I rx ry ⟨l, k, xs, rfl, rfl, hT, hne, hk2, h2, hz, q2 (by omega)⟩
  · cases rx
    obtain ⟨t, rfl⟩ := ry
    obtain ⟨its, r, ⟨⟨cls, dd, data, sl⟩, ho, hc, n, hd⟩, hs⟩ := I.tuple hT
    simp only at hc hd
    subst hc hd
    have hle : its.length = xs.length := r.length.symm
    have hn : its ≠ [] := fun e => hne (by
      rw [e] at hle
      exact List.eq_nil_of_length_eq_zero hle.symm)
    have hi : its.toArray.isEmpty = false := by
      cases its with
      | nil => exact absurd rfl hn
      | cons a b => rfl
    have c0 : (decide (k < -(2 ^ 63)) || decide (k ≥ 2 ^ 63)) = false := by
      rw [decide_eq_false (by omega), decide_eq_false (by omega)] <;> rfl
    by_cases hk : k = 1
    · have c1 : (its.toArray.isEmpty || k == 1) = true := by
        rw [hi, Bool.false_or]
        exact beq_iff_eq.mpr hk
      refine wpAny_binaryOp_repeat_ref (T := "tuple") (U := "int") (by decide) ⟨_, ho, rfl⟩ (fun s' => typeIs_int s' k t) noFill_tuple_mul F.fills_int_mul F.slot_int_rmul repeat_tuple F.slot_int_index.lookup
        (call_meets F.slot_int_rmul (typeIs_int s k t) F.entry_int_rmul (F.args_int_rmul_2 _ _) (int_rmul_tuple k t l its.toArray n dd sl)
          ⟨ho, rfl, ⟨_, ho, rfl⟩, call_meets F.slot_tuple_mul ⟨_, ho, rfl⟩ F.entry_tuple_mul (F.args_tuple_mul_2 _ _) (tuple_mulW_1 l its.toArray n dd sl k t c0 c1) ⟨ho, ?_⟩⟩)
      exact ⟨.ref l, H, I, rfl, q1 hk⟩
    · have c1 : (its.toArray.isEmpty || k == 1) = false := by
        rw [hi, Bool.false_or]
        exact beq_eq_false_iff_ne.mpr hk
      have c2 : (decide (k ≤ 0) || its.toArray.isEmpty) = true := by
        rw [hi, Bool.or_false]
        exact decide_eq_true (by omega)
      have ek : k.toNat = 0 := by omega
      refine wpAny_binaryOp_repeat_ref (T := "tuple") (U := "int") (by decide) ⟨_, ho, rfl⟩ (fun s' => typeIs_int s' k t) noFill_tuple_mul F.fills_int_mul F.slot_int_rmul repeat_tuple F.slot_int_index.lookup
        (call_meets F.slot_int_rmul (typeIs_int s k t) F.entry_int_rmul (F.args_int_rmul_2 _ _) (int_rmul_tuple k t l its.toArray n dd sl)
          ⟨ho, rfl, ⟨_, ho, rfl⟩, call_meets F.slot_tuple_mul ⟨_, ho, rfl⟩ F.entry_tuple_mul (F.args_tuple_mul_2 _ _) (tuple_mulW_0 l its.toArray n dd sl k t c0 c1 c2) ⟨ho, ?_⟩⟩)
      have q3 := q2 hk s.heap.objs.size (I.hok.fresh (Nat.le_refl _))
      rw [ek] at q3
      refine ⟨.ref s.heap.objs.size, _, I.laid (t' := s.toks) (o := .tup []) (fun b ob q => Heap.get?_push_of_some _ q) (Nat.le_refl _) ?_, rfl, q3⟩
      exact ⟨Nat.zero_le _, [], .nil, IsTup.new _ _⟩

/-! ### t[::-1] -/
theorem filterMap_some {α β : Type} {f : α → Option β} {g : α → β} : ∀ {l : List α}, (∀ m ∈ l, f m = some (g m)) → l.filterMap f = l.map g
  | [], _ => rfl
  | a :: l, h => by
    rw [List.filterMap_cons, h a List.mem_cons_self, List.map_cons, filterMap_some fun m hm => h m (List.mem_cons_of_mem _ hm)]
theorem rev_pick (xs : Array Value) : ((List.range xs.size).filterMap fun (m : Nat) => xs[(((xs.size : Int) - 1) + (m : Int) * (-1)).toNat]?).toArray = xs.toList.reverse.toArray := by
  congr 1
  apply List.ext_getElem?
  intro i
  have e : (fun (m : Nat) => xs[(((xs.size : Int) - 1) + (m : Int) * (-1)).toNat]?) = fun (m : Nat) => xs[(((xs.size : Int) - 1) - (m : Int)).toNat]? := by
    funext m
    have : (((xs.size : Int) - 1) + (m : Int) * (-1)).toNat = (((xs.size : Int) - 1) - (m : Int)).toNat := by omega
    rw [this]
  rw [e]
  have h2 : ((List.range xs.size).filterMap fun (m : Nat) => xs[(((xs.size : Int) - 1) - (m : Int)).toNat]?) = (List.range xs.size).map fun (m : Nat) => xs.getD (xs.size - 1 - m) .none := by
    refine filterMap_some fun m hm => ?_
    have hm' : m < xs.size := List.mem_range.mp hm
    have e2 : (((xs.size : Int) - 1) - (m : Int)).toNat = xs.size - 1 - m := by omega
    rw [e2]
    have h3 : xs.size - 1 - m < xs.size := by omega
    simp [Array.getD, h3]
  rw [h2]
  by_cases hi : i < xs.size
  · have h3 : xs.size - 1 - i < xs.size := by omega
    rw [List.getElem?_map, List.getElem?_range hi, List.getElem?_reverse (by simpa using hi)]
    simp [Array.getD, h3]
  · rw [List.getElem?_eq_none (by simpa using hi), List.getElem?_eq_none (by simpa using hi)]
theorem rev_adjust (n : Nat) : Builtin.Slice.sliceAdjust none none (-1) (n : Int) = ((n : Int) - 1, -1) := rfl
theorem rev_places (n : Nat) : Builtin.Slice.slicePlaces ((n : Int) - 1) (-1) (-1) = n := by
  unfold Builtin.Slice.slicePlaces
  simp only [show ¬ ((-1 : Int) > 0) by decide, if_false, show (-(-1) : Int) = 1 by decide, Int.ediv_one]
  split <;> omega
theorem getItem_tuple_rev {prog : Program} {w : World} {A : Around} {E : Value → Shared → Prop} {s : Shared} {t sl : Addr} {items : Array Value} {tk : Tok} {Q : Value → Shared → Prop} (ht : IsTup s.heap t items) (hs : s.heap.IsSliceOf sl .none .none (.int (-1) tk))
    (h : Q (.ref s.heap.objs.size) { s with heap := s.heap.push { cls := .type "tuple", data := .seq items.toList.reverse.toArray } })
    (hsz : items.size ≤ sizeLine) : wpAny (model prog w) A (getItem (.ref t) (.ref sl)) Q E s := by
  have htake : sizeOk (.seq items.toList.reverse.toArray) := by
    show items.toList.reverse.toArray.size ≤ sizeLine
    simpa using hsz
  obtain ⟨os, hos, hcs, hds⟩ := id hs
  have hTs : s.TypeIs (.ref sl) "slice" := ⟨os, hos, hcs⟩
  unfold getItem
  try with_reducible refine wpAny_holding ?_
  first | refine wpAny_bind (wpAny_pure ?_) | skip
  refine wpAny_bind (wpAny_sequenceKey ht.typeIs (by decide) ?_)
  refine wpAny_bind (wpAny_callSpecial?_slot (name := Str.ofString "__getitem__") ht.typeIs PyProof.Rows.slot_tuple_getitem
    (wpAny_call_entry PyProof.Rows.slot_tuple_getitem ht.typeIs entry_tuple_getitem ?_ (args_tuple_getitem _ _)))
  show wpAny _ _ (Builtin.Tuple.tupleItemsOf (.ref t) >>= _) _ _ s
  refine wpAny_bind (tupleItemsOf_ ht ?_)
  refine wpAny_bind (wpAny_typeOf hTs ?_)
  rw [if_pos (by decide)]
  refine wpAny_bind ?_
  · unfold Builtin.Slice.sliceApplied Builtin.Slice.sliceFields
    refine wpAny_bind (wpAny_bind (wpAny_field hos hds (x := .none) rfl (wpAny_bind (wpAny_field hos hds (x := .none) rfl (wpAny_bind (wpAny_field hos hds (x := .int (-1) tk) rfl (wpAny_pure ?_)))))))
    refine wpAny_bind (slicePart_int ?_)
    show wpAny _ _ (if ((-1 : Int) == 0) = true then _ else _) _ _ s
    rw [if_neg (by decide)]
    refine wpAny_bind (slicePart_none (wpAny_bind (slicePart_none (wpAny_bind (wpAny_pure ?_)))))
    show wpAny _ _ (match Builtin.Slice.sliceAdjust none none (-1) (items.size : Int) with | (lo, hi) => pure (lo, (-1 : Int), Builtin.Slice.slicePlaces lo hi (-1))) _ _ s
    rw [rev_adjust items.size]
    show wpAny _ _ (pure (((items.size : Nat) : Int) - 1, (-1 : Int), Builtin.Slice.slicePlaces (((items.size : Nat) : Int) - 1) (-1) (-1))) _ _ s
    rw [rev_places]
    refine wpAny_pure ?_
    have hno : ¬ (((((items.size : Nat) : Int) - 1) == 0 && (-1 : Int) == 1 && items.size == items.size) = true) := by
      intro q
      rw [Bool.and_eq_true, Bool.and_eq_true] at q
      exact absurd q.1.2 (by decide)
    show wpAny _ _ (if ((((items.size : Nat) : Int) - 1) == 0 && (-1 : Int) == 1 && items.size == items.size) = true then _ else _) _ _ s
    rw [if_neg hno, rev_pick]
    first
      | exact wpAny_bind (m := Builtin.Tuple.tupleExact _) (wpAny_newObj_type (wpAny_pure ⟨_, rfl, wpAny_pure h⟩) htake)
      | exact wpAny_bind (m := Builtin.Tuple.tupleExact _) (wpAny_newObj_type (wpAny_bind (wpAny_pure (wpAny_pure ⟨_, rfl, wpAny_pure h⟩))) htake)
      | exact wpAny_bind (wpAny_bind (m := Builtin.Tuple.tupleExact _) (wpAny_newObj_type (wpAny_pure (wpAny_pure ⟨_, rfl, wpAny_pure h⟩)) htake))
      | exact wpAny_bind (wpAny_bind (m := Builtin.Tuple.tupleExact _) (wpAny_newObj_type (wpAny_pure ⟨_, rfl, wpAny_pure h⟩) htake))
def tRevT (K : PySem.W.Frag) (te : TE) : TE := fun σ H Q => te σ H fun x H1 => ∃ a xs, x = .ref a ∧ SqT K H1 a xs ∧ ∀ p, H1 p = none → Q (.ref p) (upd H1 p (.tup xs.reverse))
theorem pe_revT {X : Cx} {e : Expr} {te : TE} {k : Nat} {p1 p2 p3 pos : Pos} (he : PE X e te) : PE X (.Subscript e (.Slice none none (some (.UnaryOp .USub (.Constant (.int 1) k p1) p2)) p3) pos) (tRevT X.K te) := by
  refine ⟨fun pins s σ H Q I h => ?_⟩
  refine Subscript_ (thn (he.run pins s σ H _ I h) fun v s1 ⟨x, H1, I1, r1, q1⟩ => ?_)
  obtain ⟨a, xs, ex, hx, q⟩ := q1
  subst ex
  cases r1
  have hst : PO X (some (.UnaryOp .USub (.Constant (.int 1) k p1) p2)) (tPart (tUn (rU fun i => .int (-i)) (tC (.int 1)))) := po_some (pe_un un_neg pe_int)
  refine wpAny_Slice (thn (po_none.run pins s1 σ H1 (fun o H2 => o = none ∧ H2 = H1) I1 ⟨rfl, rfl⟩) fun vl s2 ⟨l, H2, I2, pl, el, e2⟩ => ?_)
  subst el e2
  refine thn (po_none.run pins s2 σ H2 (fun o H3 => o = none ∧ H3 = H2) I2 ⟨rfl, rfl⟩) fun vu s3 ⟨u, H3, I3, pu, eu, e3⟩ => ?_
  subst eu e3
  refine thn (hst.run pins s3 σ H3 (fun o H4 => o = some (-1) ∧ H4 = H3) I3 ⟨1, rfl, -1, rfl, rfl, rfl⟩) fun vs s4 ⟨o, H4, I4, ps, eo, e4⟩ => ?_
  subst eo e4
  have I5 : Inv X pins σ H4 { s4 with heap := s4.heap.push { cls := .type "slice", data := .fields #[vl, vu, vs] } } := I4.kept (t' := s4.toks) fun b ob q => Heap.get?_push_of_some _ q
  obtain ⟨its, r, ht, hz⟩ := I5.tuple hx
  have hlen := r.length
  cases pl
  cases pu
  cases ps with
  | int i tk =>
    show wpAny (model X.prog X.w) X.A (subscriptTail e (.Slice none none (some (.UnaryOp .USub (.Constant (.int 1) k p1) p2)) p3) (.ref a) (.ref s4.heap.objs.size)) (EP X pins σ Q) X.xe { s4 with heap := s4.heap.push { cls := .type "slice", data := .fields #[.none, .none, .int (-1) tk] } }
    refine tail_any (ops := [.ref a, .ref s4.heap.objs.size]) ht.typeIs (PyProof.Rows.slot_tuple_getitem.lookup) ?_ (by with_unfolding_all rfl)
    refine getItem_tuple_rev ht (Heap.IsSliceOf.new _ .none .none (.int (-1) tk)) ?_ (by rw [List.size_toArray]; omega)
    refine ⟨.ref _, _, I5.laid (t' := s4.toks) (o := .tup xs.reverse) (fun b ob q => Heap.get?_push_of_some _ q) (Nat.le_refl _) ?_, rfl, q _ (I5.hok.fresh (Nat.le_refl _))⟩
    exact ⟨by rw [List.length_reverse]; exact hz, _, r.reverse, IsTup.new _ _⟩
end RS

set_option Elab.async false
set_option linter.all false
set_option maxRecDepth 100000
set_option maxHeartbeats 4000000
/-! The data layer: readings of expressions and statements told by data (PyData), heaps hidden. -/
namespace RS
open PySem PySem.Spec PyProof.Rows L2

/-! ### data in heaps -/
section
variable {K : PySem.W.Frag} {H H' : Hp}
theorem Same.new {p : Addr} {o : HO} (h : H p = none) : Same H (upd H p o) := fun a u e => by
  rw [upd_ne (ne_of_none e h)]
  exact e
theorem rd_same {a : Addr} {u : HO} (e : Same H H') (h : Rd H a u) : Rd H' a u := by
  rcases h with h | ⟨o, h⟩
  · exact .inl (e a _ h)
  · exact .inr ⟨o, e a _ h⟩
theorem sqT_same {a : Addr} {xs : List V} (e : Same H H') (h : SqT K H a xs) : SqT K H' a xs := by
  rcases h with h | h
  · exact .inl (rd_same e h)
  · exact .inr h
mutual
theorem dp_same (e : Same H H') : ∀ (d : PyData) (v : V), Dp K H v d → Dp K H' v d
  | .none, _, h => by cases h; exact .non
  | .bool b, _, h => by cases h; exact .bl b
  | .int i, _, h => by cases h; exact .int i
  | .str x, _, h => by cases h; exact .str x
  | .list ds, _, h => by
    cases h with
    | lst hs ha => exact .lst (e.seq hs) (dpAll_same e ds _ ha)
  | .tuple ds, _, h => by
    cases h with
    | tup hs ha => exact .tup (sqT_same e hs) (dpAll_same e ds _ ha)
  | .dict _, _, h => by cases h
theorem dpAll_same (e : Same H H') : ∀ (ds : List PyData) (vs : List V), DpAll K H vs ds → DpAll K H' vs ds
  | [], _, h => by cases h; exact .nil
  | d :: ds, _, h => by
    cases h with
    | cons h1 h2 => exact .cons (dp_same e d _ h1) (dpAll_same e ds _ h2)
end
mutual
def nol : PyData → Bool
  | .none => true
  | .bool _ => true
  | .int _ => true
  | .str _ => true
  | .list _ => false
  | .tuple ds => nolAll ds
  | .dict _ => false
def nolAll : List PyData → Bool
  | [] => true
  | d :: ds => nol d && nolAll ds
end
/-- tuples stand -/
def Tup (K : PySem.W.Frag) (H H' : Hp) : Prop := ∀ a xs, SqT K H a xs → SqT K H' a xs
theorem Tup.of (e : Same H H') : Tup K H H' := fun _ _ h => sqT_same e h
mutual
theorem dp_tup (e : Tup K H H') : ∀ (d : PyData) (v : V), nol d = true → Dp K H v d → Dp K H' v d
  | .none, _, _, h => by cases h; exact .non
  | .bool b, _, _, h => by cases h; exact .bl b
  | .int i, _, _, h => by cases h; exact .int i
  | .str x, _, _, h => by cases h; exact .str x
  | .list ds, _, n, h => by simp [nol] at n
  | .tuple ds, _, n, h => by
    cases h with
    | tup hs ha => exact .tup (e _ _ hs) (dpAll_tup e ds _ (by simpa [nol] using n) ha)
  | .dict _, _, _, h => by cases h
theorem dpAll_tup (e : Tup K H H') : ∀ (ds : List PyData) (vs : List V), nolAll ds = true → DpAll K H vs ds → DpAll K H' vs ds
  | [], _, _, h => by cases h; exact .nil
  | d :: ds, _, n, h => by
    have n2 : nol d = true ∧ nolAll ds = true := by simpa [nolAll] using n
    cases h with
    | cons h1 h2 => exact .cons (dp_tup e d _ n2.1 h1) (dpAll_tup e ds _ n2.2 h2)
end
theorem dpAll_len : ∀ {vs : List V} {ds : List PyData}, DpAll K H vs ds → vs.length = ds.length
  | _, _, .nil => rfl
  | _, _, .cons _ t => by rw [List.length_cons, List.length_cons, dpAll_len t]
theorem dpAll_get : ∀ {vs : List V} {ds : List PyData} {i : Nat} {d : PyData}, DpAll K H vs ds → ds[i]? = some d → ∃ v, vs[i]? = some v ∧ Dp K H v d
  | _, _, _, _, .nil, h => by simp at h
  | _, _, 0, d, .cons a _, h => ⟨_, rfl, by have e : _ = d := Option.some.inj h; rw [← e]; exact a⟩
  | _, _, i + 1, d, .cons _ t, h => by
    obtain ⟨v, h1, h2⟩ := dpAll_get (i := i) (d := d) t (by simpa using h)
    exact ⟨v, by simpa using h1, h2⟩
theorem dpAll_getV : ∀ {vs : List V} {ds : List PyData} {i : Nat} {v : V}, DpAll K H vs ds → vs[i]? = some v → ∃ d, ds[i]? = some d ∧ Dp K H v d
  | _, _, _, _, .nil, h => by simp at h
  | _, _, 0, v, .cons a _, h => ⟨_, rfl, by have e : _ = v := Option.some.inj h; rw [← e]; exact a⟩
  | _, _, i + 1, v, .cons _ t, h => by
    obtain ⟨d, h1, h2⟩ := dpAll_getV (i := i) (v := v) t (by simpa using h)
    exact ⟨d, by simpa using h1, h2⟩
theorem dpAll_append : ∀ {vs ws : List V} {ds es : List PyData}, DpAll K H vs ds → DpAll K H ws es → DpAll K H (vs ++ ws) (ds ++ es)
  | _, _, _, _, .nil, h => h
  | _, _, _, _, .cons a t, h => .cons a (dpAll_append t h)
theorem dpAll_drop : ∀ {vs : List V} {ds : List PyData} (n : Nat), DpAll K H vs ds → DpAll K H (vs.drop n) (ds.drop n)
  | _, _, 0, h => h
  | _, _, _ + 1, .nil => .nil
  | _, _, n + 1, .cons _ t => dpAll_drop n t
theorem dpAll_take : ∀ {vs : List V} {ds : List PyData} (n : Nat), DpAll K H vs ds → DpAll K H (vs.take n) (ds.take n)
  | _, _, 0, _ => .nil
  | _, _, _ + 1, .nil => .nil
  | _, _, n + 1, .cons a t => .cons a (dpAll_take n t)
theorem dpAll_reverse {vs : List V} {ds : List PyData} (h : DpAll K H vs ds) : DpAll K H vs.reverse ds.reverse := by
  induction h using DpAll.rec (motive_1 := fun _ _ _ => True) with
  | nil => exact .nil
  | cons a t _ ih => rw [List.reverse_cons, List.reverse_cons]; exact dpAll_append ih (.cons a .nil)
  | _ => trivial
theorem dpAll_set : ∀ {vs : List V} {ds : List PyData} {v : V} {d : PyData} (i : Nat), Dp K H v d → DpAll K H vs ds → DpAll K H (vs.set i v) (ds.set i d)
  | _, _, _, _, _, _, .nil => .nil
  | _, _, _, _, 0, h, .cons _ t => .cons h t
  | _, _, _, _, i + 1, h, .cons a t => .cons a (dpAll_set i h t)
theorem dpAll_ints : ∀ {vs : List V} {ns : List Int}, DpAll K H vs (ns.map PyData.int) → vs = ns.map V.int
  | _, [], h => by cases h; rfl
  | _, n :: ns, h => by
    cases h with
    | cons a t => cases a; rw [dpAll_ints t]; rfl
theorem dpAll_bls : ∀ {vs : List V} {bs : List Bool}, DpAll K H vs (bs.map PyData.bool) → vs = bs.map V.bl
  | _, [], h => by cases h; rfl
  | _, n :: ns, h => by
    cases h with
    | cons a t => cases a; rw [dpAll_bls t]; rfl
theorem cut_data (vs : List V) (ds : List PyData) (lo hi : Option Int) (h : DpAll K H vs ds) :
    DpAll K H (cutV vs lo hi) ((ds.drop (HT.sIx ds.length 0 lo)).take (HT.sIx ds.length ds.length hi - HT.sIx ds.length 0 lo)) := by
  unfold cutV
  rw [dpAll_len h]
  exact dpAll_take _ (dpAll_drop _ h)
end

/-! ### what stands in the slots -/
inductive Sl where
  | non
  | dat (d : PyData)
  | arg (d : PyData)
  | own (ds : List PyData)
  | raw (v : V)
def Sl.data : Sl → Option PyData
  | .non => none
  | .dat d => some d
  | .arg d => some d
  | .own ds => some (.list ds)
  | .raw _ => none
/-- nothing but own lists may hang on own lists -/
def Sl.keep : Sl → Bool
  | .dat d => nol d
  | _ => true
def SlOk (K : PySem.W.Frag) (H0 H : Hp) (o : Option V) : Sl → Prop
  | .non => True
  | .dat d => ∃ v, o = some v ∧ Dp K H v d
  | .arg d => ∃ v, o = some v ∧ Dp K H0 v d
  | .own ds => ∃ l vs, o = some (.ref l) ∧ H0 l = none ∧ H l = some (.lst vs) ∧ DpAll K H vs ds ∧ nolAll ds = true
  | .raw v => o = some v
structure EnvD (K : PySem.W.Frag) (H0 H : Hp) (σ : L2.St) (δ : List Sl) : Prop where
  ex : Same H0 H
  len : σ.length = δ.length
  at_ : ∀ (i : Nat) (s : Sl), δ[i]? = some s → SlOk K H0 H (σ[i]?.join) s
  dis : ∀ (i j : Nat) (ds es : List PyData) (l : Addr), δ[i]? = some (.own ds) → δ[j]? = some (.own es) → σ[i]? = some (some (.ref l)) → σ[j]? = some (some (.ref l)) → i = j
theorem join_some {α : Type} {o : Option (Option α)} {v : α} (h : o.join = some v) : o = some (some v) := by
  cases o with
  | none => cases h
  | some a => cases a with
    | none => cases h
    | some b => cases h; rfl
section
variable {K : PySem.W.Frag} {H0 H H' : Hp} {σ : L2.St} {δ : List Sl}
theorem SlOk.mono (e : Same H H') {o : Option V} {s : Sl} (h : SlOk K H0 H o s) : SlOk K H0 H' o s := by
  cases s with
  | non => trivial
  | dat d => obtain ⟨v, e1, h⟩ := h; exact ⟨v, e1, dp_same e _ _ h⟩
  | arg d => exact h
  | own ds => obtain ⟨l, vs, e1, h0, h1, h2, h3⟩ := h; exact ⟨l, vs, e1, h0, e _ _ h1, dpAll_same e _ _ h2, h3⟩
  | raw v => exact h
theorem EnvD.mono (E : EnvD K H0 H σ δ) (e : Same H H') : EnvD K H0 H' σ δ := ⟨E.ex.trans e, E.len, fun i s h => (E.at_ i s h).mono e, E.dis⟩
theorem EnvD.get (E : EnvD K H0 H σ δ) {i : Nat} {d : PyData} (h : (δ[i]?.bind Sl.data) = some d) : ∃ v, σ[i]? = some (some v) ∧ Dp K H v d := by
  cases e : δ[i]? with
  | none => rw [e] at h; cases h
  | some s =>
    rw [e] at h
    have q := E.at_ i s e
    cases s with
    | non => cases h
    | dat x => cases h; obtain ⟨v, e1, q⟩ := q; exact ⟨v, join_some e1, q⟩
    | arg x => cases h; obtain ⟨v, e1, q⟩ := q; exact ⟨v, join_some e1, dp_same E.ex _ _ q⟩
    | own ds => cases h; obtain ⟨l, vs, e1, h0, h1, h2, h3⟩ := q; exact ⟨_, join_some e1, .lst (SqL.of h1) h2⟩
    | raw v => cases h
theorem EnvD.getRaw (E : EnvD K H0 H σ δ) {i : Nat} {v : V} (h : δ[i]? = some (.raw v)) : σ[i]? = some (some v) := join_some (E.at_ i _ h)
theorem EnvD.getOwn (E : EnvD K H0 H σ δ) {i : Nat} {ds : List PyData} (h : δ[i]? = some (.own ds)) : ∃ l vs, σ[i]? = some (some (.ref l)) ∧ H0 l = none ∧ H l = some (.lst vs) ∧ DpAll K H vs ds ∧ nolAll ds = true := by
  obtain ⟨l, vs, e1, r⟩ := E.at_ i _ h
  exact ⟨l, vs, join_some e1, r⟩
theorem getElem?_set_cases {α : Type} {l : List α} {i j : Nat} {a b : α} (h : (l.set i a)[j]? = some b) : (i = j ∧ b = a ∧ j < l.length) ∨ (i ≠ j ∧ l[j]? = some b) := by
  by_cases e : i = j
  · subst e
    by_cases q : i < l.length
    · rw [List.getElem?_set_self q] at h; cases h; exact .inl ⟨rfl, rfl, q⟩
    · rw [List.getElem?_eq_none (by simpa using q)] at h; cases h
  · rw [List.getElem?_set_ne e] at h; exact .inr ⟨e, h⟩
theorem set_join {σ : L2.St} {i j : Nat} {v : V} (h : i ≠ j) : ((σ.set i (some v))[j]?).join = (σ[j]?).join := by rw [List.getElem?_set_ne h]
theorem EnvD.setD (E : EnvD K H0 H σ δ) (i : Nat) {v : V} {d : PyData} (h : Dp K H v d) : EnvD K H0 H (σ.set i (some v)) (δ.set i (.dat d)) := by
  refine ⟨E.ex, by simp [E.len], fun j s e => ?_, fun j k ds es l e1 e2 e3 e4 => ?_⟩
  · rcases getElem?_set_cases e with ⟨rfl, rfl, hl⟩ | ⟨ne, e⟩
    · exact ⟨v, by rw [List.getElem?_set_self (by rw [E.len]; exact hl)]; rfl, h⟩
    · rw [set_join ne]; exact E.at_ j s e
  · rcases getElem?_set_cases e1 with ⟨_, q, _⟩ | ⟨ne1, e1⟩
    · cases q
    · rcases getElem?_set_cases e2 with ⟨_, q, _⟩ | ⟨ne2, e2⟩
      · cases q
      · rw [List.getElem?_set_ne ne1] at e3
        rw [List.getElem?_set_ne ne2] at e4
        exact E.dis j k ds es l e1 e2 e3 e4
theorem EnvD.setO {Hb : Hp} (E : EnvD K H0 Hb σ δ) (e : Same Hb H) (i : Nat) {p : Addr} {vs : List V} {ds : List PyData} (hp : Hb p = none) (h : H p = some (.lst vs)) (hd : DpAll K H vs ds) (hn : nolAll ds = true) :
    EnvD K H0 H (σ.set i (some (.ref p))) (δ.set i (.own ds)) := by
  have E2 := E.mono e
  have old : ∀ (j : Nat) (xs : List PyData), δ[j]? = some (.own xs) → σ[j]? ≠ some (some (.ref p)) := fun j xs q z => by
    obtain ⟨l, ws, e1, _, e3, _⟩ := E.getOwn q
    rw [e1] at z; cases z
    rw [hp] at e3; cases e3
  refine ⟨E2.ex, by simp [E.len], fun j s q => ?_, fun j k xs ys l e1 e2 e3 e4 => ?_⟩
  · rcases getElem?_set_cases q with ⟨rfl, rfl, hl⟩ | ⟨ne, q⟩
    · exact ⟨p, vs, by rw [List.getElem?_set_self (by rw [E.len]; exact hl)]; rfl, E.ex.free hp, h, hd, hn⟩
    · rw [set_join ne]; exact E2.at_ j s q
  · rcases getElem?_set_cases e1 with ⟨q1, _, l1⟩ | ⟨ne1, e1⟩
    · rcases getElem?_set_cases e2 with ⟨q2, _, _⟩ | ⟨ne2, e2⟩
      · rw [← q1, ← q2]
      · subst q1
        rw [List.getElem?_set_self (by rw [E.len]; exact l1)] at e3
        cases e3
        rw [List.getElem?_set_ne ne2] at e4
        exact absurd e4 (old _ _ e2)
    · rw [List.getElem?_set_ne ne1] at e3
      rcases getElem?_set_cases e2 with ⟨q2, _, l2⟩ | ⟨ne2, e2⟩
      · subst q2
        rw [List.getElem?_set_self (by rw [E.len]; exact l2)] at e4
        cases e4
        exact absurd e3 (old _ _ e1)
      · rw [List.getElem?_set_ne ne2] at e4
        exact E.dis j k xs ys l e1 e2 e3 e4
/-- a list is changed: tuples stand -/
theorem tup_upd {l : Addr} {vs ws : List V} (h : H l = some (.lst vs)) : Tup K H (upd H l (.lst ws)) := fun a xs q => by
  rcases q with (q | ⟨o, q⟩) | q
  · exact .inl (.inl (by rw [upd_ne (ne_of q h (by intro z; cases z))]; exact q))
  · exact .inl (.inr ⟨o, by rw [upd_ne (ne_of q h (by intro z; cases z))]; exact q⟩)
  · exact .inr q
/-- an own list is changed -/
theorem EnvD.change (E : EnvD K H0 H σ δ) (i : Nat) {ds es : List PyData} (hi : δ[i]? = some (.own ds)) (hk : δ.all Sl.keep = true) {l : Addr} {vs ws : List V} (hl : σ[i]? = some (some (.ref l))) (h : H l = some (.lst vs)) (hw : DpAll K H ws es) (hn : nolAll es = true) :
    EnvD K H0 (upd H l (.lst ws)) σ (δ.set i (.own es)) := by
  have T : Tup K H (upd H l (.lst ws)) := tup_upd h
  obtain ⟨l', vs', e1, h0, e3, _, _⟩ := E.getOwn hi
  rw [hl] at e1; cases e1
  have S : Same H0 (upd H l (.lst ws)) := fun a o q => by rw [upd_ne (ne_of_none q h0)]; exact E.ex a o q
  refine ⟨S, by simp [E.len], fun j s q => ?_, fun j k xs ys m e1 e2 e3 e4 => ?_⟩
  · rcases getElem?_set_cases q with ⟨rfl, rfl, hlt⟩ | ⟨ne, q⟩
    · exact ⟨l, ws, by rw [hl]; rfl, h0, upd_same, dpAll_tup T _ _ hn hw, hn⟩
    · have z := E.at_ j s q
      have kp : s.keep = true := List.all_eq_true.mp hk s (List.mem_of_getElem? q)
      cases s with
      | non => trivial
      | dat d => obtain ⟨v, e1, z⟩ := z; exact ⟨v, e1, dp_tup T _ _ kp z⟩
      | arg d => exact z
      | raw v => exact z
      | own xs =>
        obtain ⟨m, us, e1, z0, z1, z2, z3⟩ := z
        have hne : m ≠ l := fun w => ne (E.dis i j ds xs l hi q hl (by rw [← w]; exact join_some e1))
        exact ⟨m, us, e1, z0, by rw [upd_ne hne]; exact z1, dpAll_tup T _ _ z3 z2, z3⟩
  · have own : ∀ (j : Nat) (xs : List PyData), (δ.set i (.own es))[j]? = some (.own xs) → ∃ ys, δ[j]? = some (.own ys) := fun j xs q => by
      rcases getElem?_set_cases q with ⟨rfl, _, _⟩ | ⟨_, q⟩
      · exact ⟨_, hi⟩
      · exact ⟨_, q⟩
    obtain ⟨xs', e1'⟩ := own j xs e1
    obtain ⟨ys', e2'⟩ := own k ys e2
    exact E.dis j k _ _ m e1' e2' e3 e4
end

/-! ### canonical readings -/
section
variable (X : Cx)
def cE (e : Expr) : TE := fun σ H Q => ∀ pins s, Inv X pins σ H s → wpAny (model X.prog X.w) X.A (eval e X.env) (EP X pins σ Q) X.xe s
def cT (e : Expr) : TT := fun σ H Q => ∀ pins s, Inv X pins σ H s → wpAny (model X.prog X.w) X.A (isTrue e X.env (eval e X.env)) (TP X pins σ Q) X.xe s
def cW (e : Expr) : TT := fun σ H Q => ∀ wh pins s, Inv X pins σ H s → wpAny (model X.prog X.w) X.A (isTrue e X.env wh) (TP X pins σ Q) X.xe s
def cA (es : List Expr) : TA := fun σ H Q => ∀ pos pins s, Inv X pins σ H s → wpAny (model X.prog X.w) X.A (spliced (backTo pos (starEach es X.env))) (AP X pins σ Q) X.xe s
def cS (st : Stmt) : TS := fun D σ H => ∀ pins s, Inv X pins σ H s → wpAny (model X.prog X.w) X.A (exec st X.env) (SP X pins D) X.xe s
def cSs (st : List Stmt) : TS := fun D σ H => ∀ pins s, Inv X pins σ H s → wpAny (model X.prog X.w) X.A (execs st X.env) (SP X pins D) X.xe s
def cC (op : CmpOp) (a b : Expr) : TE := fun σ H Q => ∀ pins s, Inv X pins σ H s →
  wpAny (model X.prog X.w) X.A (eval a X.env) (fun v s₁ => wpAny (model X.prog X.w) X.A (eval b X.env) (fun u s₂ => wpAny (model X.prog X.w) X.A (compareOp op v u) (EP X pins σ Q) X.xe s₂) X.xe s₁) X.xe s
def cG (tg : Expr) : TG := fun v σ H Q => ∀ pins s u, Inv X pins σ H s → RelV v u →
  wpAny (model X.prog X.w) X.A (assign tg X.env u) (fun _ s' => ∃ σ' H', Inv X pins σ' H' s' ∧ Q σ' H') X.xe s
end
section
variable {X : Cx} {e a b : Expr} {es : List Expr} {st : Stmt} {sts : List Stmt} {σ : L2.St} {H : Hp}
theorem c_e : PE X e (cE X e) := ⟨fun pins s σ H Q I h => h pins s I⟩
theorem c_t : PT X e (cT X e) := ⟨fun pins s σ H Q I h => h pins s I⟩
theorem c_w : PW X e (cW X e) := ⟨fun wh pins s σ H Q I h => h wh pins s I⟩
theorem c_a : PA X es (cA X es) := ⟨fun pos pins s σ H Q I h => h pos pins s I⟩
theorem c_s : PS X st (cS X st) := ⟨fun pins s σ H D I h => h pins s I⟩
theorem c_ss : PSs X sts (cSs X sts) := ⟨fun pins s σ H D I h => h pins s I⟩
theorem c_c {op : CmpOp} : PC X op a b (cC X op a b) := ⟨fun pins s σ H Q I h => h pins s I⟩
theorem c_g {tg : Expr} : PG X tg (cG X tg) := ⟨fun pins s σ H v u Q I r h => h pins s u I r⟩
theorem e_of {t : TE} {Q : VK} (h : PE X e t) (q : t σ H Q) : cE X e σ H Q := fun pins s I => h.run pins s σ H Q I q
theorem t_of {t : TT} {Q : Bool → Hp → Prop} (h : PT X e t) (q : t σ H Q) : cT X e σ H Q := fun pins s I => h.run pins s σ H Q I q
theorem w_of {t : TT} {Q : Bool → Hp → Prop} (h : PW X e t) (q : t σ H Q) : cW X e σ H Q := fun wh pins s I => h.run wh pins s σ H Q I q
theorem a_of {t : TA} {Q : List V → Hp → Prop} (h : PA X es t) (q : t σ H Q) : cA X es σ H Q := fun pos pins s I => h.run pos pins s σ H Q I q
theorem s_of {t : TS} {D : Ends} (h : PS X st t) (q : t D σ H) : cS X st D σ H := fun pins s I => h.run pins s σ H D I q
theorem ss_of {t : TS} {D : Ends} (h : PSs X sts t) (q : t D σ H) : cSs X sts D σ H := fun pins s I => h.run pins s σ H D I q
theorem c_of {op : CmpOp} {t : TE} {Q : VK} (h : PC X op a b t) (q : t σ H Q) : cC X op a b σ H Q := fun pins s I => h.run pins s σ H Q I q
theorem g_of {tg : Expr} {t : TG} {v : V} {Q : L2.St → Hp → Prop} (h : PG X tg t) (q : t v σ H Q) : cG X tg v σ H Q := fun pins s u I r => h.run pins s σ H v u Q I r q
theorem pc_R {op : CmpOp} {r : R2} (ho : OpR X (compareOp op) r) {ta tb : TE} (ha : PE X a ta) (hb : PE X b tb) : PC X op a b (tOp r ta tb) :=
  ⟨fun pins s σ H Q I h => binT ha hb I h fun v u s2 x y H2 I2 rx ry q => ho pins s2 σ H2 x y v u Q I2 rx ry q⟩
end

/-! ### what an expression is, by data -/
section
variable (X : Cx) (H0 : Hp) (δ : List Sl)
def EV (e : Expr) (d : PyData) : Prop := ∀ σ H, EnvD X.K H0 H σ δ → ∀ Q : VK, (∀ v H', Same H H' → Dp X.K H' v d → Q v H') → cE X e σ H Q
/-- a new list -/
def EL (e : Expr) (ds : List PyData) : Prop := ∀ σ H, EnvD X.K H0 H σ δ → ∀ Q : VK, (∀ p vs H', Same H H' → H p = none → H' p = some (.lst vs) → DpAll X.K H' vs ds → Q (.ref p) H') → cE X e σ H Q
def ET (e : Expr) (b : Bool) : Prop := ∀ σ H, EnvD X.K H0 H σ δ → ∀ Q : Bool → Hp → Prop, (∀ H', Same H H' → Q b H') → cT X e σ H Q
def EW (e : Expr) (b : Bool) : Prop := ∀ σ H, EnvD X.K H0 H σ δ → ∀ Q : Bool → Hp → Prop, (∀ H', Same H H' → Q b H') → cW X e σ H Q
def EA (es : List Expr) (ds : List PyData) : Prop := ∀ σ H, EnvD X.K H0 H σ δ → ∀ Q : List V → Hp → Prop, (∀ vs H', Same H H' → DpAll X.K H' vs ds → Q vs H') → cA X es σ H Q
def EC (op : CmpOp) (a b : Expr) (d : PyData) : Prop := ∀ σ H, EnvD X.K H0 H σ δ → ∀ Q : VK, (∀ v H', Same H H' → Dp X.K H' v d → Q v H') → cC X op a b σ H Q
end
section
variable {X : Cx} {H0 : Hp} {δ : List Sl} {e a b c : Expr} {es : List Expr} {pos p : Pos} {i j : Int} {d d' : PyData} {ds : List PyData} {k k' : Bool}
theorem EL.ev (h : EL X H0 δ e ds) : EV X H0 δ e (.list ds) := fun σ H E Q q => h σ H E Q fun p vs H' s _ h1 h2 => q _ _ s (.lst (SqL.of h1) h2)
theorem EV.is (h : EV X H0 δ e d) (w : d = d') : EV X H0 δ e d' := w ▸ h
theorem ET.is (h : ET X H0 δ e k) (w : k = k') : ET X H0 δ e k' := w ▸ h
theorem EL.is {ds' : List PyData} (h : EL X H0 δ e ds) (w : ds = ds') : EL X H0 δ e ds' := w ▸ h
theorem ev_var (n : Nat) {x : Str} (h : (δ[n]?.bind Sl.data) = some d := by rfl) (hN : X.N[n]? = some x := by rfl) (hv : Vis X.env.scope x := by first | exact Or.inl rfl | exact Or.inr (Or.inl rfl) | exact Or.inr (Or.inr rfl)) (hd : (x == ("__debug__" : Str)) = false := by decide)
    (hcd : (x == ("__classdict__" : Str)) = false := by decide) : EV X H0 δ (.Name x pos) d := fun σ H E Q q => by
  obtain ⟨v, h1, h2⟩ := E.get h
  exact e_of (pe_var hN hv hd hcd) ⟨v, h1, q v H (Same.refl H) h2⟩
theorem ev_int {j} : EV X H0 δ (.Constant (.int i) j pos) (.int i) := fun σ H E Q q => e_of pe_int (q _ H (Same.refl H) (.int i))
theorem ev_non {j} : EV X H0 δ (.Constant .none j pos) .none := fun σ H E Q q => e_of pe_non (q _ H (Same.refl H) .non)
theorem ev_bl {j} : EV X H0 δ (.Constant (.bool k) j pos) (.bool k) := fun σ H E Q q => e_of pe_bl (q _ H (Same.refl H) (.bl k))
theorem ev_str {x : Str} {j} : EV X H0 δ (.Constant (.str x) j pos) (.str x) := fun σ H E Q q => e_of pe_str (q _ H (Same.refl H) (.str x))
/-- a module's constant -/
theorem ev_glob {x : Str} {v : V} {u : Value} (hm : X.mg x = some u) (r : RelV v u) (h : ∀ H, Dp X.K H v d) (hg : Gl X x := by rfl) (hd : (x == ("__debug__" : Str)) = false := by decide) : EV X H0 δ (.Name x pos) d :=
  fun σ H E Q q => e_of (pe_glob hg hm r hd) (q _ H (Same.refl H) (h H))
theorem ev_cst {x : Str} {a : Addr} (hm : X.mg x = some (.ref a)) (h : ∀ H, Dp X.K H (.ref a) d) (hg : Gl X x := by rfl) (hd : (x == ("__debug__" : Str)) = false := by decide) : EV X H0 δ (.Name x pos) d := ev_glob (v := .ref a) hm rfl h hg hd
theorem ev_cstI {x : Str} {t : Tok} (hm : X.mg x = some (.int i t)) (hg : Gl X x := by rfl) (hd : (x == ("__debug__" : Str)) = false := by decide) : EV X H0 δ (.Name x pos) (.int i) := ev_glob (v := .int i) hm ⟨t, rfl⟩ (fun _ => .int i) hg hd
theorem ev_cstS {x z : Str} {t : Tok} (hm : X.mg x = some (.str z t)) (hg : Gl X x := by rfl) (hd : (x == ("__debug__" : Str)) = false := by decide) : EV X H0 δ (.Name x pos) (.str z) := ev_glob (v := .str z) hm ⟨t, rfl⟩ (fun _ => .str z) hg hd
theorem ev2 {op : Operator} {r : R2} (ho : OpR X (binaryOp op) r) (ha : EV X H0 δ a d) (hb : EV X H0 δ b d')
    {D : PyData} (h : ∀ x y H, Dp X.K H x d → Dp X.K H y d' → ∀ Q : VK, (∀ v H', Same H H' → Dp X.K H' v D → Q v H') → r x y H Q) : EV X H0 δ (.BinOp a op b pos) D := fun σ H E Q q =>
  e_of (pe_op ho c_e c_e) (ha σ H E _ fun x H1 s1 h1 => hb σ H1 (E.mono s1) _ fun y H2 s2 h2 => h x y H2 (dp_same s2 _ _ h1) h2 Q fun v H3 s3 h3 => q v H3 ((s1.trans s2).trans s3) h3)
theorem ev_add (ha : EV X H0 δ a (.int i)) (hb : EV X H0 δ b (.int j)) : EV X H0 δ (.BinOp a .Add b pos) (.int (i + j)) :=
  ev2 op_add ha hb fun x y H h1 h2 Q q => by cases h1; cases h2; exact ⟨_, _, rfl, rfl, q _ H (Same.refl H) (.int _)⟩
theorem ev_sub (ha : EV X H0 δ a (.int i)) (hb : EV X H0 δ b (.int j)) : EV X H0 δ (.BinOp a .Sub b pos) (.int (i - j)) :=
  ev2 op_sub ha hb fun x y H h1 h2 Q q => by cases h1; cases h2; exact ⟨_, _, rfl, rfl, q _ H (Same.refl H) (.int _)⟩
theorem ev_mul (ha : EV X H0 δ a (.int i)) (hb : EV X H0 δ b (.int j)) (hc : CMulW i j) : EV X H0 δ (.BinOp a .Mult b pos) (.int (i * j)) :=
  ev2 op_mulW ha hb fun x y H h1 h2 Q q => by cases h1; cases h2; exact ⟨_, _, rfl, rfl, hc, q _ H (Same.refl H) (.int _)⟩
theorem ev_mulS (ha : EV X H0 δ a (.int i)) (hb : EV X H0 δ b (.int j)) (hc : CMul i j) : EV X H0 δ (.BinOp a .Mult b pos) (.int (i * j)) :=
  ev2 op_mul ha hb fun x y H h1 h2 Q q => by cases h1; cases h2; exact ⟨_, _, rfl, rfl, hc, q _ H (Same.refl H) (.int _)⟩
theorem ev_div (ha : EV X H0 δ a (.int i)) (hb : EV X H0 δ b (.int j)) (hc : CDivW i j) : EV X H0 δ (.BinOp a .FloorDiv b pos) (.int (i / j)) :=
  ev2 op_fdivW ha hb fun x y H h1 h2 Q q => by cases h1; cases h2; exact ⟨_, _, rfl, rfl, hc, q _ H (Same.refl H) (.int _)⟩
theorem ev_mod (ha : EV X H0 δ a (.int i)) (hb : EV X H0 δ b (.int j)) (hc : 0 < j) : EV X H0 δ (.BinOp a .Mod b pos) (.int (i % j)) :=
  ev2 op_mod ha hb fun x y H h1 h2 Q q => by cases h1; cases h2; exact ⟨_, _, rfl, rfl, hc, q _ H (Same.refl H) (.int _)⟩
theorem ev_pow (ha : EV X H0 δ a (.int i)) (hb : EV X H0 δ b (.int j)) (hc : CPow i j) : EV X H0 δ (.BinOp a .Pow b pos) (.int (i ^ j.toNat)) :=
  ev2 op_pow ha hb fun x y H h1 h2 Q q => by cases h1; cases h2; exact ⟨_, _, rfl, rfl, hc, q _ H (Same.refl H) (.int _)⟩
theorem ev_catT {es : List PyData} (ha : EV X H0 δ a (.tuple ds)) (hb : EV X H0 δ b (.tuple es)) (hz : ds.length + es.length ≤ 100000) : EV X H0 δ (.BinOp a .Add b pos) (.tuple (ds ++ es)) :=
  ev2 op_catA ha hb fun x y H h1 h2 Q q => by
    cases h1 with
    | tup q1 d1 =>
      cases h2 with
      | tup q2 d2 =>
        refine ⟨_, _, _, _, rfl, rfl, q1, q2, by rw [dpAll_len d1, dpAll_len d2]; exact Nat.le_trans hz (by decide), fun z => ?_, fun _ z => ?_, fun _ _ p hp => ?_⟩
        · subst z; cases d1; exact q _ H (Same.refl H) (.tup q2 d2)
        · subst z; cases d2; rw [List.append_nil] at q; exact q _ H (Same.refl H) (.tup q1 d1)
        · exact q _ _ (Same.new hp) (.tup (SqT.of upd_same) (dpAll_append (dpAll_same (Same.new hp) _ _ d1) (dpAll_same (Same.new hp) _ _ d2)))
/-! arguments, displays -/
theorem ea_nil : EA X H0 δ [] [] := fun σ H E Q q => a_of pa_nil (q [] H (Same.refl H) .nil)
theorem ea_cons (ha : EV X H0 δ e d) (hr : EA X H0 δ es ds) (hs : starEach (e :: es) X.env = (false, eval e X.env) :: starEach es X.env := by rfl) : EA X H0 δ (e :: es) (d :: ds) := fun σ H E Q q =>
  a_of (pa_cons c_e c_a hs) (ha σ H E _ fun x H1 s1 h1 => hr σ H1 (E.mono s1) _ fun xs H2 s2 h2 => q _ H2 (s1.trans s2) (.cons (dp_same s2 _ _ h1) h2))
theorem ev_tup (ha : EA X H0 δ es ds) (hz : ds.length ≤ 100000 := by exact Nat.le_of_ble_eq_true rfl) {n} : EV X H0 δ (.Tuple es n pos) (.tuple ds) := fun σ H E Q q =>
  e_of (pe_tup c_a) (ha σ H E _ fun vs H1 s1 h1 => ⟨by rw [dpAll_len h1]; exact Nat.le_trans hz (by decide), fun p hp => q _ _ (s1.trans (Same.new hp)) (.tup (SqT.of upd_same) (dpAll_same (Same.new hp) _ _ h1))⟩)
theorem el_lst (ha : EA X H0 δ es ds) (hz : ds.length ≤ 100000 := by exact Nat.le_of_ble_eq_true rfl) : EL X H0 δ (.List es pos) ds := fun σ H E Q q =>
  e_of (pe_lst c_a) (ha σ H E _ fun vs H1 s1 h1 => ⟨by rw [dpAll_len h1]; exact Nat.le_trans hz (by decide), fun p hp => q p vs _ (s1.trans (Same.new hp)) (s1.free hp) upd_same (dpAll_same (Same.new hp) _ _ h1)⟩)
/-! subscripts -/
theorem atI_data {K : PySem.W.Frag} {H : Hp} {vs : List V} {ds : List PyData} {i : Int} {d : PyData} (h : DpAll K H vs ds) (e : atI ds i = some d) : ∃ v, atI vs i = some v ∧ Dp K H v d := by
  unfold atI at e ⊢
  rw [dpAll_len h]
  cases q : ixN ds.length i with
  | none => rw [q] at e; cases e
  | some j =>
    rw [q] at e
    exact dpAll_get h e
theorem ev_ixT (ha : EV X H0 δ a (.tuple ds)) (hb : EV X H0 δ b (.int i)) (h : atI ds i = some d) (hs : PlainIx b := by exact fun _ _ => rfl) : EV X H0 δ (.Subscript a b pos) d := fun σ H E Q q =>
  e_of (pe_ix ix_tup c_e c_e hs) (ha σ H E _ fun x H1 s1 h1 => hb σ H1 (E.mono s1) _ fun y H2 s2 h2 => by
    have h3 := dp_same s2 _ _ h1
    cases h3 with
    | tup q1 d1 =>
      cases h2
      obtain ⟨v, e1, e2⟩ := atI_data d1 h
      exact ⟨_, _, _, v, rfl, rfl, q1, e1, q v H2 (s1.trans s2) e2⟩)
theorem ev_ixL (ha : EV X H0 δ a (.list ds)) (hb : EV X H0 δ b (.int i)) (h : atI ds i = some d) (hs : PlainIx b := by exact fun _ _ => rfl) : EV X H0 δ (.Subscript a b pos) d := fun σ H E Q q =>
  e_of (pe_ix ix_list c_e c_e hs) (ha σ H E _ fun x H1 s1 h1 => hb σ H1 (E.mono s1) _ fun y H2 s2 h2 => by
    have h3 := dp_same s2 _ _ h1
    cases h3 with
    | lst q1 d1 =>
      cases h2
      obtain ⟨v, e1, e2⟩ := atI_data d1 h
      exact ⟨_, _, _, v, rfl, rfl, q1, e1, q v H2 (s1.trans s2) e2⟩)
theorem atI0 {α : Type} {x : α} {xs : List α} : atI (x :: xs) 0 = some x := atI_nat (j := 0) rfl
theorem atI1 {α : Type} {x y : α} {xs : List α} : atI (x :: y :: xs) 1 = some y := atI_nat (j := 1) rfl
theorem atI2 {α : Type} {x y z : α} {xs : List α} : atI (x :: y :: z :: xs) 2 = some z := atI_nat (j := 2) rfl
theorem ev_ix0 {n p2 d} {ds : List PyData} (ha : EV X H0 δ a (.tuple (d :: ds))) : EV X H0 δ (.Subscript a (.Constant (.int 0) n p2) pos) d := ev_ixT ha ev_int atI0
theorem ev_ix1 {n p2 d} {ds : List PyData} (ha : EV X H0 δ a (.tuple (d' :: d :: ds))) : EV X H0 δ (.Subscript a (.Constant (.int 1) n p2) pos) d := ev_ixT ha ev_int atI1
theorem ev_ix2 {n p2 d d''} {ds : List PyData} (ha : EV X H0 δ a (.tuple (d'' :: d' :: d :: ds))) : EV X H0 δ (.Subscript a (.Constant (.int 2) n p2) pos) d := ev_ixT ha ev_int atI2
theorem ev_neg (ha : EV X H0 δ a (.int i)) : EV X H0 δ (.UnaryOp .USub a pos) (.int (-i)) := fun σ H E Q q =>
  e_of (pe_un un_neg c_e) (ha σ H E _ fun x H1 s1 h1 => by cases h1; exact ⟨_, rfl, q _ H1 s1 (.int _)⟩)
/-! comparisons -/
theorem ec_R {op : CmpOp} {r : R2} (ho : OpR X (compareOp op) r) (ha : EV X H0 δ a d) (hb : EV X H0 δ b d')
    {D : PyData} (h : ∀ x y H, Dp X.K H x d → Dp X.K H y d' → ∀ Q : VK, (∀ v H', Same H H' → Dp X.K H' v D → Q v H') → r x y H Q) : EC X H0 δ op a b D := fun σ H E Q q =>
  c_of (pc_R ho c_e c_e) (ha σ H E _ fun x H1 s1 h1 => hb σ H1 (E.mono s1) _ fun y H2 s2 h2 => h x y H2 (dp_same s2 _ _ h1) h2 Q fun v H3 s3 h3 => q v H3 ((s1.trans s2).trans s3) h3)
theorem ec_lt (ha : EV X H0 δ a (.int i)) (hb : EV X H0 δ b (.int j)) : EC X H0 δ .Lt a b (.bool (decide (i < j))) := ec_R op_lt ha hb fun x y H h1 h2 Q q => by cases h1; cases h2; exact ⟨_, _, rfl, rfl, q _ H (Same.refl H) (.bl _)⟩
theorem ec_le (ha : EV X H0 δ a (.int i)) (hb : EV X H0 δ b (.int j)) : EC X H0 δ .LtE a b (.bool (decide (i ≤ j))) := ec_R op_le ha hb fun x y H h1 h2 Q q => by cases h1; cases h2; exact ⟨_, _, rfl, rfl, q _ H (Same.refl H) (.bl _)⟩
theorem ec_gt (ha : EV X H0 δ a (.int i)) (hb : EV X H0 δ b (.int j)) : EC X H0 δ .Gt a b (.bool (decide (j < i))) := ec_R op_gt ha hb fun x y H h1 h2 Q q => by cases h1; cases h2; exact ⟨_, _, rfl, rfl, q _ H (Same.refl H) (.bl _)⟩
theorem ec_ge (ha : EV X H0 δ a (.int i)) (hb : EV X H0 δ b (.int j)) : EC X H0 δ .GtE a b (.bool (decide (j ≤ i))) := ec_R op_ge ha hb fun x y H h1 h2 Q q => by cases h1; cases h2; exact ⟨_, _, rfl, rfl, q _ H (Same.refl H) (.bl _)⟩
theorem dec_iV {i j : Int} : decide (V.int i = V.int j) = decide (i = j) := by
  by_cases h : i = j
  · subst h; simp
  · simp [h]
theorem ec_eqI (ha : EV X H0 δ a (.int i)) (hb : EV X H0 δ b (.int j)) : EC X H0 δ .Eq a b (.bool (decide (i = j))) := ec_R op_eq ha hb fun x y H h1 h2 Q q => by cases h1; cases h2; exact ⟨rfl, q _ H (Same.refl H) (by rw [dec_iV]; exact .bl _)⟩
theorem ec_neI (ha : EV X H0 δ a (.int i)) (hb : EV X H0 δ b (.int j)) : EC X H0 δ .NotEq a b (.bool (!decide (i = j))) := ec_R op_ne ha hb fun x y H h1 h2 Q q => by cases h1; cases h2; exact ⟨rfl, q _ H (Same.refl H) (by rw [dec_iV]; exact .bl _)⟩
theorem ec_eqB (ha : EV X H0 δ a (.bool k)) (hb : EV X H0 δ b (.bool k')) : EC X H0 δ .Eq a b (.bool (decide (k = k'))) := ec_R op_eq ha hb fun x y H h1 h2 Q q => by cases h1; cases h2; exact ⟨rfl, q _ H (Same.refl H) (by simpa using .bl _)⟩
theorem ec_eqS {x y : Str} (ha : EV X H0 δ a (.str x)) (hb : EV X H0 δ b (.str y)) : EC X H0 δ .Eq a b (.bool (decide (x = y))) := ec_R op_eq ha hb fun x y H h1 h2 Q q => by cases h1; cases h2; exact ⟨rfl, q _ H (Same.refl H) (by simpa using .bl _)⟩
theorem ec_neS {x y : Str} (ha : EV X H0 δ a (.str x)) (hb : EV X H0 δ b (.str y)) : EC X H0 δ .NotEq a b (.bool (!decide (x = y))) := ec_R op_ne ha hb fun x y H h1 h2 Q q => by cases h1; cases h2; exact ⟨rfl, q _ H (Same.refl H) (by simpa using .bl _)⟩
theorem ec_eqD (hu : X.A.units + 64 < cLine) (ha : EV X H0 δ a d) (hb : EV X H0 δ b d') (s1 : SeqAt.shaped d = true) (s2 : SeqAt.shaped d' = true) : EC X H0 δ .Eq a b (.bool (PyData.eqv d d')) := ec_R (op_eqD hu) ha hb fun x y H h1 h2 Q q => ⟨_, _, h1, h2, s1, s2, q _ H (Same.refl H) (.bl _)⟩
theorem ec_neD (hu : X.A.units + 64 < cLine) (ha : EV X H0 δ a d) (hb : EV X H0 δ b d') (s1 : SeqAt.shaped d = true) (s2 : SeqAt.shaped d' = true) : EC X H0 δ .NotEq a b (.bool (!PyData.eqv d d')) := ec_R (op_neD hu) ha hb fun x y H h1 h2 Q q => ⟨_, _, h1, h2, s1, s2, q _ H (Same.refl H) (.bl _)⟩
theorem ec_isB (ha : EV X H0 δ a (.bool k)) (hb : EV X H0 δ b (.bool k')) : EC X H0 δ .Is a b (.bool (decide (k = k'))) := ec_R op_isBl ha hb fun x y H h1 h2 Q q => by cases h1; cases h2; exact ⟨_, _, rfl, rfl, q _ H (Same.refl H) (.bl _)⟩
theorem ec_notB (ha : EV X H0 δ a (.bool k)) (hb : EV X H0 δ b (.bool k')) : EC X H0 δ .IsNot a b (.bool (!decide (k = k'))) := ec_R op_notBl ha hb fun x y H h1 h2 Q q => by cases h1; cases h2; exact ⟨_, _, rfl, rfl, q _ H (Same.refl H) (.bl _)⟩
theorem ev_cmp {op : CmpOp} (h : EC X H0 δ op a b d) (h1 : behindInMarks op b = false := by first | exact nobehind _ (by decide) (by decide) | rfl) : EV X H0 δ (.Compare a [op] [b] pos) d := fun σ H E Q q => e_of (pe_cmp c_c h1) (h σ H E Q q)
theorem et_cmp {op : CmpOp} (h : EC X H0 δ op a b (.bool k)) (h1 : behindInMarks op b = false := by first | exact nobehind _ (by decide) (by decide) | rfl) : ET X H0 δ (.Compare a [op] [b] pos) k := fun σ H E Q q =>
  t_of (pt_cmp c_c h1) (h σ H E _ fun v H1 s1 h1 => by cases h1; exact ⟨k, rfl, q H1 s1⟩)
theorem et_val (h : EV X H0 δ e (.bool k)) (he : ∀ whole, isTrue e X.env whole = (do let v ← whole; standAt e.pos; holding [v] (truthy v)) := by intro _; rfl) : ET X H0 δ e k := fun σ H E Q q =>
  t_of (pt_val c_e he) (h σ H E _ fun v H1 s1 h1 => by cases h1; exact ⟨k, rfl, q H1 s1⟩)
/-! tests -/
theorem ew_and1 (h : ET X H0 δ a k) : EW X H0 δ (.BoolOp .And [a] pos) k := fun σ H E Q q => w_of (pw_and1 c_t) (h σ H E Q q)
theorem ew_or1 (h : ET X H0 δ a k) : EW X H0 δ (.BoolOp .Or [a] pos) k := fun σ H E Q q => w_of (pw_or1 c_t) (h σ H E Q q)
theorem ew_andT {rest : List Expr} (h : ET X H0 δ a true) (h2 : EW X H0 δ (.BoolOp .And (b :: rest) pos) k) : EW X H0 δ (.BoolOp .And (a :: b :: rest) pos) k := fun σ H E Q q =>
  w_of (pw_and c_t c_w) (h σ H E _ fun H1 s1 => by show cW _ _ _ _ _; exact h2 σ H1 (E.mono s1) Q fun H2 s2 => q H2 (s1.trans s2))
theorem ew_andF {rest : List Expr} (h : ET X H0 δ a false) : EW X H0 δ (.BoolOp .And (a :: b :: rest) pos) false := fun σ H E Q q =>
  w_of (pw_and c_t c_w) (h σ H E _ fun H1 s1 => by show Q false H1; exact q H1 s1)
theorem ew_orF {rest : List Expr} (h : ET X H0 δ a false) (h2 : EW X H0 δ (.BoolOp .Or (b :: rest) pos) k) : EW X H0 δ (.BoolOp .Or (a :: b :: rest) pos) k := fun σ H E Q q =>
  w_of (pw_or c_t c_w) (h σ H E _ fun H1 s1 => by show cW _ _ _ _ _; exact h2 σ H1 (E.mono s1) Q fun H2 s2 => q H2 (s1.trans s2))
theorem ew_orT {rest : List Expr} (h : ET X H0 δ a true) : EW X H0 δ (.BoolOp .Or (a :: b :: rest) pos) true := fun σ H E Q q =>
  w_of (pw_or c_t c_w) (h σ H E _ fun H1 s1 => by show Q true H1; exact q H1 s1)
theorem et_w (h : EW X H0 δ e k) : ET X H0 δ e k := fun σ H E Q q => t_of c_w.pt (h σ H E Q q)
theorem et_not (h : ET X H0 δ a k) : ET X H0 δ (.UnaryOp .Not a pos) (!k) := fun σ H E Q q => t_of (pt_not c_t) (h σ H E _ q)
theorem et_notT (h : ET X H0 δ a true) : ET X H0 δ (.UnaryOp .Not a pos) false := et_not h
theorem et_notF (h : ET X H0 δ a false) : ET X H0 δ (.UnaryOp .Not a pos) true := et_not h
theorem et_cmpE {op : CmpOp} (h : EC X H0 δ op a b (.bool k')) (e : k' = k) (h1 : behindInMarks op b = false := by first | exact nobehind _ (by decide) (by decide) | rfl) : ET X H0 δ (.Compare a [op] [b] pos) k := (et_cmp h h1).is e
theorem ev_cmpE {op : CmpOp} (h : EC X H0 δ op a b d') (e : d' = d) (h1 : behindInMarks op b = false := by first | exact nobehind _ (by decide) (by decide) | rfl) : EV X H0 δ (.Compare a [op] [b] pos) d := (ev_cmp h h1).is e
theorem et_valE (h : EV X H0 δ e (.bool k')) (e' : k' = k) (he : ∀ whole, isTrue e X.env whole = (do let v ← whole; standAt e.pos; holding [v] (truthy v)) := by intro _; rfl) : ET X H0 δ e k := (et_val h he).is e'
/-! .. as values -/
theorem ev_one {op} (h : EV X H0 δ a d) : EV X H0 δ (.BoolOp op [a] pos) d := fun σ H E Q q => e_of (pe_one c_e) (h σ H E Q q)
theorem ev_andT {rest : List Expr} (h : EV X H0 δ a (.bool true)) (h2 : EV X H0 δ (.BoolOp .And (b :: rest) pos) d) : EV X H0 δ (.BoolOp .And (a :: b :: rest) pos) d := fun σ H E Q q =>
  e_of (pe_and c_e c_e) (h σ H E _ fun v H1 s1 h1 => by cases h1; exact ⟨true, rfl, h2 σ H1 (E.mono s1) Q fun v H2 s2 h2 => q v H2 (s1.trans s2) h2⟩)
theorem ev_andF {rest : List Expr} (h : EV X H0 δ a (.bool false)) : EV X H0 δ (.BoolOp .And (a :: b :: rest) pos) (.bool false) := fun σ H E Q q =>
  e_of (pe_and c_e c_e) (h σ H E _ fun v H1 s1 h1 => by cases h1; exact ⟨false, rfl, q _ H1 s1 (.bl false)⟩)
theorem ev_orT {rest : List Expr} (h : EV X H0 δ a (.bool true)) : EV X H0 δ (.BoolOp .Or (a :: b :: rest) pos) (.bool true) := fun σ H E Q q =>
  e_of (pe_or c_e c_e) (h σ H E _ fun v H1 s1 h1 => by cases h1; exact ⟨true, rfl, q _ H1 s1 (.bl true)⟩)
theorem ev_orF {rest : List Expr} (h : EV X H0 δ a (.bool false)) (h2 : EV X H0 δ (.BoolOp .Or (b :: rest) pos) d) : EV X H0 δ (.BoolOp .Or (a :: b :: rest) pos) d := fun σ H E Q q =>
  e_of (pe_or c_e c_e) (h σ H E _ fun v H1 s1 h1 => by cases h1; exact ⟨false, rfl, h2 σ H1 (E.mono s1) Q fun v H2 s2 h2 => q v H2 (s1.trans s2) h2⟩)
theorem ev_not (h : EV X H0 δ a (.bool k)) : EV X H0 δ (.UnaryOp .Not a pos) (.bool (!k)) := fun σ H E Q q =>
  e_of (pe_not c_e) (h σ H E _ fun v H1 s1 h1 => by cases h1; exact ⟨k, rfl, q _ H1 s1 (.bl _)⟩)
theorem ev_ifT (h : ET X H0 δ c true) (h2 : EV X H0 δ a d) : EV X H0 δ (.IfExp c a b pos) d := fun σ H E Q q =>
  e_of (pe_ifExp c_t c_e c_e) (h σ H E _ fun H1 s1 => by show cE _ _ _ _ _; exact h2 σ H1 (E.mono s1) Q fun v H2 s2 h2 => q v H2 (s1.trans s2) h2)
theorem ev_ifF (h : ET X H0 δ c false) (h2 : EV X H0 δ b d) : EV X H0 δ (.IfExp c a b pos) d := fun σ H E Q q =>
  e_of (pe_ifExp c_t c_e c_e) (h σ H E _ fun H1 s1 => by show cE _ _ _ _ _; exact h2 σ H1 (E.mono s1) Q fun v H2 s2 h2 => q v H2 (s1.trans s2) h2)
theorem ev_if (h : ET X H0 δ c k) (h1 : k = true → EV X H0 δ a d) (h2 : k = false → EV X H0 δ b d) : EV X H0 δ (.IfExp c a b pos) d := by
  cases k with
  | true => exact ev_ifT h (h1 rfl)
  | false => exact ev_ifF h (h2 rfl)
theorem el_ifT (h : ET X H0 δ c true) (h2 : EL X H0 δ a ds) : EL X H0 δ (.IfExp c a b pos) ds := fun σ H E Q q =>
  e_of (pe_ifExp c_t c_e c_e) (h σ H E _ fun H1 s1 => by show cE _ _ _ _ _; exact h2 σ H1 (E.mono s1) Q fun p vs H2 s2 hp h1 h2 => q p vs H2 (s1.trans s2) (s1.free hp) h1 h2)
theorem el_ifF (h : ET X H0 δ c false) (h2 : EL X H0 δ b ds) : EL X H0 δ (.IfExp c a b pos) ds := fun σ H E Q q =>
  e_of (pe_ifExp c_t c_e c_e) (h σ H E _ fun H1 s1 => by show cE _ _ _ _ _; exact h2 σ H1 (E.mono s1) Q fun p vs H2 s2 hp h1 h2 => q p vs H2 (s1.trans s2) (s1.free hp) h1 h2)
/-! calls of built-ins -/
theorem ev_cb {x : Str} {id : String} {r : List V → Hp → VK → Prop} (hc : CallR X (.builtin id) r) (hm : X.mg x = none) (hv : bootBuiltins x = some (.builtin id)) (ha : EA X H0 δ (e :: es) ds)
    (h : ∀ vs H, DpAll X.K H vs ds → ∀ Q : VK, (∀ v H', Same H H' → Dp X.K H' v d → Q v H') → r vs H Q) (hg : Gl X x := by rfl) (hn : x ≠ "__name__" := by decide) (hdb : (x == ("__debug__" : Str)) = false := by decide)
    (he : starEach (e :: es) X.env = (false, eval e X.env) :: starEach es X.env := by rfl) (hpl : (backTo pos (starEach es X.env)).any (·.1) = false := by rfl) : EV X H0 δ (.Call (.Name x p) (e :: es) [] pos) d := fun σ H E Q q =>
  e_of (pe_callB hc hg hm hv c_a hn hdb he hpl) (ha σ H E _ fun vs H1 s1 h1 => h vs H1 h1 Q fun v H2 s2 h2 => q v H2 (s1.trans s2) h2)
theorem ev_cty {x : Str} {T : String} {r : List V → Hp → VK → Prop} (hc : CallR X (.type T) r) (hm : X.mg x = none) (hv : bootBuiltins x = some (.type T)) (ha : EA X H0 δ (e :: es) ds)
    (h : ∀ vs H, DpAll X.K H vs ds → ∀ Q : VK, (∀ v H', Same H H' → Dp X.K H' v d → Q v H') → r vs H Q) (hg : Gl X x := by rfl) (hn : x ≠ "__name__" := by decide) (hdb : (x == ("__debug__" : Str)) = false := by decide)
    (he : starEach (e :: es) X.env = (false, eval e X.env) :: starEach es X.env := by rfl) (hpl : (backTo pos (starEach es X.env)).any (·.1) = false := by rfl) : EV X H0 δ (.Call (.Name x p) (e :: es) [] pos) d := fun σ H E Q q =>
  e_of (pe_callTy hc hg hm hv c_a hn hdb he hpl) (ha σ H E _ fun vs H1 s1 h1 => h vs H1 h1 Q fun v H2 s2 h2 => q v H2 (s1.trans s2) h2)
theorem dp1 {K : PySem.W.Frag} {H : Hp} {vs : List V} {d : PyData} (h : DpAll K H vs [d]) : ∃ v, vs = [v] ∧ Dp K H v d := by
  cases h with
  | cons a t => cases t; exact ⟨_, rfl, a⟩
theorem dp2 {K : PySem.W.Frag} {H : Hp} {vs : List V} {d d' : PyData} (h : DpAll K H vs [d, d']) : ∃ v u, vs = [v, u] ∧ Dp K H v d ∧ Dp K H u d' := by
  cases h with
  | cons a t => cases t with
    | cons b t => cases t; exact ⟨_, _, rfl, a, b⟩
theorem hv_len : bootBuiltins "len" = some (.builtin "len") := boot_len
theorem hv_abs : bootBuiltins "abs" = some (.builtin "abs") := by decide +kernel
theorem hv_max : bootBuiltins "max" = some (.builtin "max") := by decide +kernel
theorem hv_min : bootBuiltins "min" = some (.builtin "min") := by decide +kernel
theorem hv_all : bootBuiltins "all" = some (.builtin "all") := by decide +kernel
theorem hv_isi : bootBuiltins "isinstance" = some (.builtin "isinstance") := by decide +kernel
theorem hv_int : bootBuiltins "int" = some (.type "int") := by decide +kernel
theorem hv_bool : bootBuiltins "bool" = some (.type "bool") := by decide +kernel
theorem hv_tuple : bootBuiltins "tuple" = some (.type "tuple") := by decide +kernel
theorem hv_list : bootBuiltins "list" = some (.type "list") := by decide +kernel
theorem ev_lenT (hm : X.mg "len" = none) (ha : EV X H0 δ e (.tuple ds)) (hg : Gl X "len" := by rfl) (hs : starEach [e] X.env = (false, eval e X.env) :: starEach [] X.env := by rfl) : EV X H0 δ (.Call (.Name "len" p) [e] [] pos) (.int ds.length) :=
  ev_cb call_len_seq hm hv_len (ea_cons ha ea_nil hs) (fun vs H h0 Q q => by
    obtain ⟨v, e0, h⟩ := dp1 h0
    subst e0
    cases h with
    | tup q1 d1 => exact ⟨_, _, rfl, .inr q1, q _ H (Same.refl H) (by rw [dpAll_len d1]; exact .int _)⟩) hg (he := hs)
theorem ev_lenL (hm : X.mg "len" = none) (ha : EV X H0 δ e (.list ds)) (hg : Gl X "len" := by rfl) (hs : starEach [e] X.env = (false, eval e X.env) :: starEach [] X.env := by rfl) : EV X H0 δ (.Call (.Name "len" p) [e] [] pos) (.int ds.length) :=
  ev_cb call_len_seq hm hv_len (ea_cons ha ea_nil hs) (fun vs H h0 Q q => by
    obtain ⟨v, e0, h⟩ := dp1 h0
    subst e0
    cases h with
    | lst q1 d1 => exact ⟨_, _, rfl, .inl q1, q _ H (Same.refl H) (by rw [dpAll_len d1]; exact .int _)⟩) hg (he := hs)
theorem ev_abs (hm : X.mg "abs" = none) (ha : EV X H0 δ e (.int i)) (hg : Gl X "abs" := by rfl) (hs : starEach [e] X.env = (false, eval e X.env) :: starEach [] X.env := by rfl) : EV X H0 δ (.Call (.Name "abs" p) [e] [] pos) (.int i.natAbs) :=
  ev_cb call_abs hm hv_abs (ea_cons ha ea_nil hs) (fun vs H h0 Q q => by
    obtain ⟨v, e0, h⟩ := dp1 h0
    subst e0
    cases h
    exact ⟨_, rfl, q _ H (Same.refl H) (by rw [show (if i < 0 then -i else i) = ((i.natAbs : Nat) : Int) by split <;> omega]; exact .int _)⟩) hg (he := hs)
theorem ev_max (hc : X.calm = true) (hm : X.mg "max" = none) (ha : EV X H0 δ a (.int i)) (hb : EV X H0 δ b (.int j)) (hg : Gl X "max" := by rfl) (hs : starEach [a, b] X.env = (false, eval a X.env) :: starEach [b] X.env := by rfl) (hs2 : starEach [b] X.env = (false, eval b X.env) :: starEach [] X.env := by rfl) (hpl : (backTo pos (starEach [b] X.env)).any (·.1) = false := by rfl) : EV X H0 δ (.Call (.Name "max" p) [a, b] [] pos) (.int (max i j)) :=
  ev_cb (call_max2 hc) hm hv_max (ea_cons ha (ea_cons hb ea_nil hs2) hs) (fun vs H h0 Q q => by
    obtain ⟨v, u, e0, h, h'⟩ := dp2 h0
    subst e0
    cases h; cases h'
    exact ⟨_, _, rfl, q _ H (Same.refl H) (by rw [show (if j > i then j else i) = max i j by split <;> omega]; exact .int _)⟩) hg (he := hs) (hpl := hpl)
theorem ev_min (hc : X.calm = true) (hm : X.mg "min" = none) (ha : EV X H0 δ a (.int i)) (hb : EV X H0 δ b (.int j)) (hg : Gl X "min" := by rfl) (hs : starEach [a, b] X.env = (false, eval a X.env) :: starEach [b] X.env := by rfl) (hs2 : starEach [b] X.env = (false, eval b X.env) :: starEach [] X.env := by rfl) (hpl : (backTo pos (starEach [b] X.env)).any (·.1) = false := by rfl) : EV X H0 δ (.Call (.Name "min" p) [a, b] [] pos) (.int (min i j)) :=
  ev_cb (call_min2 hc) hm hv_min (ea_cons ha (ea_cons hb ea_nil hs2) hs) (fun vs H h0 Q q => by
    obtain ⟨v, u, e0, h, h'⟩ := dp2 h0
    subst e0
    cases h; cases h'
    exact ⟨_, _, rfl, q _ H (Same.refl H) (by rw [show (if j < i then j else i) = min i j by split <;> omega]; exact .int _)⟩) hg (he := hs) (hpl := hpl)
theorem ev_intc (hm : X.mg "int" = none) (ha : EV X H0 δ e (.int i)) (hg : Gl X "int" := by rfl) (hs : starEach [e] X.env = (false, eval e X.env) :: starEach [] X.env := by rfl) : EV X H0 δ (.Call (.Name "int" p) [e] [] pos) (.int i) :=
  ev_cty call_int1 hm hv_int (ea_cons ha ea_nil hs) (fun vs H h0 Q q => by
    obtain ⟨v, e0, h⟩ := dp1 h0
    subst e0
    cases h
    exact .inl ⟨_, rfl, q _ H (Same.refl H) (.int _)⟩) hg (he := hs)
theorem ev_tupL (hm : X.mg "tuple" = none) (ha : EV X H0 δ e (.list ds)) (hg : Gl X "tuple" := by rfl) (hs : starEach [e] X.env = (false, eval e X.env) :: starEach [] X.env := by rfl) : EV X H0 δ (.Call (.Name "tuple" p) [e] [] pos) (.tuple ds) :=
  ev_cty call_tuple_of hm hv_tuple (ea_cons ha ea_nil hs) (fun vs H h0 Q q => by
    obtain ⟨v, e0, h⟩ := dp1 h0
    subst e0
    cases h with
    | lst q1 d1 => exact ⟨_, _, rfl, .inl ⟨q1, fun l hl => q _ _ (Same.new hl) (.tup (SqT.of upd_same) (dpAll_same (Same.new hl) _ _ d1))⟩⟩) hg (he := hs)
theorem ev_all (hc : X.calm = true) (hm : X.mg "all" = none) {bs : List Bool} (ha : EV X H0 δ e (.list (bs.map PyData.bool))) (hg : Gl X "all" := by rfl) (hs : starEach [e] X.env = (false, eval e X.env) :: starEach [] X.env := by rfl) : EV X H0 δ (.Call (.Name "all" p) [e] [] pos) (.bool (bs.all id)) :=
  ev_cb (cr_all hc) hm hv_all (ea_cons ha ea_nil hs) (fun vs H h0 Q q => by
    obtain ⟨v, e0, h⟩ := dp1 h0
    subst e0
    cases h with
    | lst q1 d1 =>
      have e1 := dpAll_bls d1
      subst e1
      exact ⟨_, _, rfl, q1, q _ H (Same.refl H) (.bl _)⟩) hg (he := hs)
end
end RS

set_option Elab.async false
set_option linter.all false
set_option maxRecDepth 100000
set_option maxHeartbeats 4000000
/-! The data layer, second part: what is walked, comprehensions, statements, defs. -/
namespace RS
open PySem PySem.Spec PyProof.Rows L2

/-! ### small things -/
section
variable {K : PySem.W.Frag} {H0 H H' : Hp} {σ : L2.St} {δ : List Sl}
theorem Tup.trans {H1 H2 H3 : Hp} (a : Tup K H1 H2) (b : Tup K H2 H3) : Tup K H1 H3 := fun x xs h => b x xs (a x xs h)
theorem Tup.refl (H : Hp) : Tup K H H := fun _ _ h => h
def wipeS (δ : List Sl) : List Nat → List Sl
  | [] => δ
  | v :: vs => (wipeS δ vs).set v .non
theorem EnvD.setN (E : EnvD K H0 H σ δ) (i : Nat) : EnvD K H0 H (σ.set i none) (δ.set i .non) := by
  refine ⟨E.ex, by simp [E.len], fun j s e => ?_, fun j k ds es l e1 e2 e3 e4 => ?_⟩
  · rcases getElem?_set_cases e with ⟨rfl, rfl, hl⟩ | ⟨ne, e⟩
    · trivial
    · rw [List.getElem?_set_ne ne]; exact E.at_ j s e
  · rcases getElem?_set_cases e1 with ⟨_, q, _⟩ | ⟨ne1, e1⟩
    · cases q
    · rcases getElem?_set_cases e2 with ⟨_, q, _⟩ | ⟨ne2, e2⟩
      · cases q
      · rw [List.getElem?_set_ne ne1] at e3
        rw [List.getElem?_set_ne ne2] at e4
        exact E.dis j k ds es l e1 e2 e3 e4
theorem EnvD.wipe (E : EnvD K H0 H σ δ) : ∀ vs : List Nat, EnvD K H0 H (L2.wipe σ vs) (wipeS δ vs)
  | [] => E
  | v :: vs => (E.wipe vs).setN v
theorem nolAll_append : ∀ (ds es : List PyData), nolAll (ds ++ es) = (nolAll ds && nolAll es)
  | [], es => by simp [nolAll]
  | d :: ds, es => by simp [nolAll, nolAll_append ds es, Bool.and_assoc]
theorem nolAll_get : ∀ {ds : List PyData} {i : Nat} {d : PyData}, nolAll ds = true → ds[i]? = some d → nol d = true
  | [], _, _, _, h => by simp at h
  | a :: ds, 0, d, n, h => by
    have e : a = d := Option.some.inj h
    have n2 : nol a = true ∧ nolAll ds = true := by simpa [nolAll] using n
    rw [← e]; exact n2.1
  | a :: ds, i + 1, d, n, h => by
    have n2 : nol a = true ∧ nolAll ds = true := by simpa [nolAll] using n
    exact nolAll_get n2.2 (by simpa using h)
theorem nolAll_map {α : Type} {f : α → PyData} (h : ∀ a, nol (f a) = true) : ∀ l : List α, nolAll (l.map f) = true
  | [] => rfl
  | a :: l => by simp [nolAll, h a, nolAll_map h l]
theorem nolAll_set : ∀ {ds : List PyData} {d : PyData} (i : Nat), nolAll ds = true → nol d = true → nolAll (ds.set i d) = true
  | [], _, _, _, _ => rfl
  | a :: ds, d, 0, n, h => by
    have n2 : nol a = true ∧ nolAll ds = true := by simpa [nolAll] using n
    simp [nolAll, h, n2.2]
  | a :: ds, d, i + 1, n, h => by
    have n2 : nol a = true ∧ nolAll ds = true := by simpa [nolAll] using n
    simp [nolAll, n2.1, nolAll_set i n2.2 h]
end

theorem there {α : Type} {l : List α} {i : Nat} (h : i < l.length) : ∃ d, l[i]? = some d := ⟨l[i], by simp [h]⟩
/-! ### what is walked -/
structure Wk (K : PySem.W.Frag) (S : Hp → Prop) (J : It) (ds : List PyData) : Prop where
  go : ∀ i H, i < ds.length → S H → J.go i H
  stop : ∀ H, S H → J.stop ds.length H
  yld : ∀ i H x H', i < ds.length → S H → J.yld i H x H' → Same H H' ∧ ∃ d, ds[i]? = some d ∧ Dp K H' x d
/-- iter gives the data ds in turn while G stands -/
def IT (X : Cx) (H0 : Hp) (δ : List Sl) (tg iter : Expr) (ds : List PyData) (G : Hp → Hp → Prop) : Prop :=
  ∃ wi, PI X tg iter wi ∧ ∀ σ H, EnvD X.K H0 H σ δ → ∀ R : It → Hp → Prop, (∀ J H1, Same H H1 → Wk X.K (G H1) J ds → R J H1) → wi σ H R
/-- a comprehension: nothing changes; a loop: what the def was given and all tuples stand -/
abbrev Gc : Hp → Hp → Prop := Same
def Gl' (K : PySem.W.Frag) (H0 : Hp) : Hp → Hp → Prop := fun H1 H2 => Same H0 H2 ∧ Tup K H1 H2
/-- what of the items stays -/
def Stays (K : PySem.W.Frag) (G : Hp → Hp → Prop) (ds : List PyData) : Prop := (∀ H1 H2, G H1 H2 → Tup K H1 H2) ∧ ∀ H1 H2 d v, G H1 H2 → d ∈ ds → Dp K H1 v d → Dp K H2 v d
theorem stays_c {K : PySem.W.Frag} {ds : List PyData} : Stays K Gc ds := ⟨fun _ _ h => Tup.of h, fun _ _ _ _ h _ q => dp_same h _ _ q⟩
theorem stays_l {K : PySem.W.Frag} {H0 : Hp} {ds : List PyData} (h : nolAll ds = true) : Stays K (Gl' K H0) ds := ⟨fun _ _ h => h.2, fun H1 H2 d v g m q => by
  obtain ⟨i, e⟩ := List.getElem?_of_mem m
  exact dp_tup g.2 _ _ (nolAll_get h e) q⟩
theorem sqT_inj {X : Cx} {pins} {σ : L2.St} {H : Hp} {s : Shared} (I : Inv X pins σ H s) {a xs ys} (h : SqT X.K H a xs) (h' : SqT X.K H a ys) : xs = ys := I.tuple_inj h h'
section
variable {X : Cx} {H0 : Hp} {δ : List Sl} {tg e e2 : Expr} {ds es : List PyData} {G : Hp → Hp → Prop} {p pos : Pos}
theorem it_tup (he : EV X H0 δ e (.tuple ds)) (hs : Stays X.K G ds) : IT X H0 δ tg e ds G := ⟨_, pi_tup c_e, fun σ H E R r => he σ H E _ fun v H1 s1 h1 => by
  cases h1 with
  | tup q d =>
    refine ⟨_, rfl, ⟨_, q⟩, r _ _ s1 ⟨fun i H hi g => ?_, fun H g => ?_, fun i H x H' hi g y => ?_⟩⟩
    · have hl := dpAll_len d
      obtain ⟨d', e⟩ : ∃ d', ds[i]? = some d' := there hi
      obtain ⟨v, e1, _⟩ := dpAll_get d e
      exact ⟨_, v, hs.1 _ _ g _ _ q, e1⟩
    · exact ⟨_, hs.1 _ _ g _ _ q, Nat.le_of_eq (dpAll_len d)⟩
    · obtain ⟨e1, y⟩ := y
      subst e1
      have e2 := y _ (hs.1 _ _ g _ _ q)
      obtain ⟨d', e3, e4⟩ := dpAll_getV d e2
      exact ⟨Same.refl _, d', e3, hs.2 _ _ _ _ g (List.mem_of_getElem? e3) e4⟩⟩
theorem it_listC (he : EV X H0 δ e (.list ds)) : IT X H0 δ tg e ds Gc := ⟨_, pi_list c_e, fun σ H E R r => he σ H E _ fun v H1 s1 h1 => by
  cases h1 with
  | lst q d =>
    refine ⟨_, rfl, ⟨_, q⟩, r _ _ s1 ⟨fun i H hi g => ?_, fun H g => ?_, fun i H x H' hi g y => ?_⟩⟩
    · obtain ⟨d', e⟩ : ∃ d', ds[i]? = some d' := there hi
      obtain ⟨v, e1, _⟩ := dpAll_get d e
      exact ⟨_, v, g.seq q, e1⟩
    · exact ⟨_, g.seq q, Nat.le_of_eq (dpAll_len d)⟩
    · obtain ⟨e1, y⟩ := y
      subst e1
      have e2 := y _ (g.seq q)
      obtain ⟨d', e3, e4⟩ := dpAll_getV d e2
      exact ⟨Same.refl _, d', e3, dp_same g _ _ e4⟩⟩
/-- a list that the def was given, at slot n -/
theorem it_listA (n : Nat) {x : Str} (h : δ[n]? = some (.arg (.list ds))) (hN : X.N[n]? = some x) (hv : Vis X.env.scope x) (hd : (x == ("__debug__" : Str)) = false := by decide) (hcd : (x == ("__classdict__" : Str)) = false := by decide) : IT X H0 δ tg (.Name x pos) ds (Gl' X.K H0) :=
  ⟨_, pi_list (pe_var (i := n) hN hv hd hcd), fun σ H E R r => by
    obtain ⟨v, e1, h1⟩ := E.at_ n _ h
    cases h1 with
    | lst q d =>
      refine ⟨_, join_some e1, _, rfl, ⟨_, E.ex.seq q⟩, r _ _ (Same.refl H) ⟨fun i H hi g => ?_, fun H g => ?_, fun i H x H' hi g y => ?_⟩⟩
      · obtain ⟨d', e⟩ : ∃ d', ds[i]? = some d' := there hi
        obtain ⟨v, e1, _⟩ := dpAll_get d e
        exact ⟨_, v, g.1.seq q, e1⟩
      · exact ⟨_, g.1.seq q, Nat.le_of_eq (dpAll_len d)⟩
      · obtain ⟨e1, y⟩ := y
        subst e1
        have e2 := y _ (g.1.seq q)
        obtain ⟨d', e3, e4⟩ := dpAll_getV d e2
        exact ⟨Same.refl _, d', e3, dp_same g.1 _ _ e4⟩⟩
def rangeD (n : Nat) : List PyData := (List.range n).map fun (i : Nat) => PyData.int (i : Int)
theorem rangeD_len (n : Nat) : (rangeD n).length = n := by simp [rangeD]
theorem rangeD_get {n i : Nat} (h : i < n) : (rangeD n)[i]? = some (.int (i : Int)) := by simp [rangeD, h]
theorem it_range (n : Nat) (hm : X.mg "range" = none) (he : EV X H0 δ e (.int (n : Int))) (hz : n < 2 ^ 62) (hg : Gl X "range" := by rfl) (hs : starEach [e] X.env = [(false, eval e X.env)] := by rfl) : IT X H0 δ tg (.Call (.Name "range" p) [e] [] pos) (rangeD n) G :=
  ⟨_, pi_range1 hg hm (pa_cons c_e pa_nil hs) hs, fun σ H E R r => he σ H E _ fun v H1 s1 h1 => by
    cases h1
    refine ⟨_, rfl, by omega, by omega, r _ _ s1 ⟨fun i H hi g => ?_, fun H g => ?_, fun i H x H' hi g y => ?_⟩⟩
    · rw [rangeD_len] at hi; show i < ((n : Int)).toNat; omega
    · show ((n : Int)).toNat ≤ (rangeD n).length; rw [rangeD_len]; omega
    · obtain ⟨e1, e2⟩ := y
      subst e1 e2
      rw [rangeD_len] at hi
      refine ⟨Same.refl _, _, rangeD_get hi, ?_⟩
      rw [Int.zero_add]
      exact .int _⟩
def enumD (ds : List PyData) : List PyData := (List.range ds.length).map fun (i : Nat) => PyData.tuple [.int (i : Int), ds.getD i .none]
theorem enumD_len (ds : List PyData) : (enumD ds).length = ds.length := by simp [enumD]
theorem enumD_get {ds : List PyData} {i : Nat} {d : PyData} (h : ds[i]? = some d) : (enumD ds)[i]? = some (.tuple [.int (i : Int), d]) := by
  have hi : i < ds.length := (List.getElem?_eq_some_iff.mp h).1
  have e : ds.getD i .none = d := by simp [List.getD, h]
  simp [enumD, hi]
  have e2 : ds[i] = d := by simpa [hi] using h
  exact e2
theorem it_enumT {elts : List Expr} {kk : Nat} {tpos : Pos} (hm : X.mg "enumerate" = none) (he : EV X H0 δ e (.tuple ds)) (hs : Stays X.K G ds) (hg : Gl X "enumerate" := by rfl) (hst : starEach [e] X.env = [(false, eval e X.env)] := by rfl) :
    IT X H0 δ (.Tuple elts kk tpos) (.Call (.Name "enumerate" p) [e] [] pos) (enumD ds) G := ⟨_, pi_enumT hg hm (pa_cons c_e pa_nil hst) hst, fun σ H E R r => he σ H E _ fun v H1 s1 h1 => by
  cases h1 with
  | tup q d =>
    refine ⟨_, _, rfl, q, r _ _ s1 ⟨fun i H hi g => ?_, fun H g => ?_, fun i H x H' hi g y => ?_⟩⟩
    · rw [enumD_len] at hi
      obtain ⟨d', e⟩ : ∃ d', ds[i]? = some d' := there hi
      obtain ⟨v, e1, _⟩ := dpAll_get d e
      exact ⟨_, v, hs.1 _ _ g _ _ q, e1⟩
    · rw [enumD_len]; exact ⟨_, hs.1 _ _ g _ _ q, Nat.le_of_eq (dpAll_len d)⟩
    · obtain ⟨T, x', e1, hT, e2, y⟩ := y
      subst e1 e2
      have e3 := y _ (hs.1 _ _ g _ _ q)
      obtain ⟨d', e4, e5⟩ := dpAll_getV d e3
      have sm : Same H (upd H T (.tup [.int (i : Nat), x'])) := Same.new hT
      exact ⟨sm, _, enumD_get e4, .tup (SqT.of upd_same) (.cons (.int _) (.cons (dp_same sm _ _ (hs.2 _ _ _ _ g (List.mem_of_getElem? e4) e5)) .nil))⟩⟩
theorem it_enumA (n : Nat) {x : Str} {elts : List Expr} {kk : Nat} {tpos px : Pos} (hm : X.mg "enumerate" = none) (h : δ[n]? = some (.arg (.list ds))) (hN : X.N[n]? = some x) (hv : Vis X.env.scope x) (hg : Gl X "enumerate" := by rfl)
    (hst : starEach [.Name x px] X.env = [(false, eval (.Name x px) X.env)] := by rfl) (hd : (x == ("__debug__" : Str)) = false := by decide) (hcd : (x == ("__classdict__" : Str)) = false := by decide) :
    IT X H0 δ (.Tuple elts kk tpos) (.Call (.Name "enumerate" p) [.Name x px] [] pos) (enumD ds) (Gl' X.K H0) := ⟨_, pi_enum hg hm (pa_cons (pe_var (i := n) hN hv hd hcd) pa_nil hst) hst, fun σ H E R r => by
  obtain ⟨v, e1, h1⟩ := E.at_ n _ h
  cases h1 with
  | lst q d =>
    refine ⟨_, join_some e1, _, _, rfl, E.ex.seq q, r _ _ (Same.refl H) ⟨fun i H hi g => ?_, fun H g => ?_, fun i H x H' hi g y => ?_⟩⟩
    · rw [enumD_len] at hi
      obtain ⟨d', e⟩ : ∃ d', ds[i]? = some d' := there hi
      obtain ⟨v, e1, _⟩ := dpAll_get d e
      exact ⟨_, v, g.1.seq q, e1⟩
    · rw [enumD_len]; exact ⟨_, g.1.seq q, Nat.le_of_eq (dpAll_len d)⟩
    · obtain ⟨T, x', e1, hT, e2, y⟩ := y
      subst e1 e2
      have e3 := y _ (g.1.seq q)
      obtain ⟨d', e4, e5⟩ := dpAll_getV d e3
      have sm : Same H (upd H T (.tup [.int (i : Nat), x'])) := Same.new hT
      exact ⟨sm, _, enumD_get e4, .tup (SqT.of upd_same) (.cons (.int _) (.cons (dp_same sm _ _ (dp_same g.1 _ _ e5)) .nil))⟩⟩
def zipD : List PyData → List PyData → List PyData
  | d :: ds, e :: es => .tuple [d, e] :: zipD ds es
  | _, _ => []
theorem zipD_len : ∀ ds es : List PyData, (zipD ds es).length = min ds.length es.length
  | [], _ => by simp [zipD]
  | _ :: _, [] => by simp [zipD]
  | d :: ds, e :: es => by simp [zipD, zipD_len ds es]
theorem zipD_get : ∀ {ds es : List PyData} {i : Nat} {d e : PyData}, ds[i]? = some d → es[i]? = some e → (zipD ds es)[i]? = some (.tuple [d, e])
  | [], _, _, _, _, h, _ => by simp at h
  | _ :: _, [], _, _, _, _, h => by simp at h
  | a :: ds, b :: es, 0, d, e, h, h' => by simp at h h'; simp [zipD, h, h']
  | a :: ds, b :: es, i + 1, d, e, h, h' => by simp [zipD]; exact zipD_get (by simpa using h) (by simpa using h')
theorem it_zipT {elts : List Expr} {kk : Nat} {tpos : Pos} (hm : X.mg "zip" = none) (he : EV X H0 δ e (.tuple ds)) (he2 : EV X H0 δ e2 (.tuple es)) (hs : Stays X.K G ds) (hs2 : Stays X.K G es) (hg : Gl X "zip" := by rfl)
    (h1 : starEach [e, e2] X.env = (false, eval e X.env) :: starEach [e2] X.env := by rfl) (h2 : starEach [e2] X.env = [(false, eval e2 X.env)] := by rfl) (h3 : (backTo pos (starEach [e2] X.env)).any (·.1) = false := by rfl) :
    IT X H0 δ (.Tuple elts kk tpos) (.Call (.Name "zip" p) [e, e2] [] pos) (zipD ds es) G := ⟨_, RZ.pi_zipA hg hm (pa_cons c_e (pa_cons c_e pa_nil h2) h1) h1 h3, fun σ H E R r => he σ H E _ fun v H1 s1 q1 => he2 σ H1 (E.mono s1) _ fun u H2 s2 q2 => by
  cases q1 with
  | tup a1 d1 =>
    cases q2 with
    | tup a2 d2 =>
      have a1 := sqT_same s2 a1
      have d1 := dpAll_same s2 _ _ d1
      refine ⟨_, _, _, _, rfl, .inr ⟨a1, a2, r _ _ (s1.trans s2) ⟨fun i H hi g => ?_, fun H g => ?_, fun i H x H' hi g y => ?_⟩⟩⟩
      · rw [zipD_len] at hi
        obtain ⟨x1, e1⟩ : ∃ d', ds[i]? = some d' := there (by omega)
        obtain ⟨x2, e2⟩ : ∃ d', es[i]? = some d' := there (by omega)
        obtain ⟨v1, f1, _⟩ := dpAll_get d1 e1
        obtain ⟨v2, f2, _⟩ := dpAll_get d2 e2
        exact ⟨_, _, v1, v2, hs.1 _ _ g _ _ a1, hs.1 _ _ g _ _ a2, f1, f2⟩
      · refine ⟨_, _, hs.1 _ _ g _ _ a1, hs.1 _ _ g _ _ a2, ?_⟩
        rw [zipD_len, dpAll_len d1, dpAll_len d2]; omega
      · obtain ⟨T, x1, x2, e1, hT, e2, y1, y2⟩ := y
        subst e1 e2
        obtain ⟨b1, f1, g1⟩ := dpAll_getV d1 (y1 _ (hs.1 _ _ g _ _ a1))
        obtain ⟨b2, f2, g2⟩ := dpAll_getV d2 (y2 _ (hs.1 _ _ g _ _ a2))
        have sm : Same H (upd H T (.tup [x1, x2])) := Same.new hT
        exact ⟨sm, _, zipD_get f1 f2, .tup (SqT.of upd_same) (.cons (dp_same sm _ _ (hs.2 _ _ _ _ g (List.mem_of_getElem? f1) g1)) (.cons (dp_same sm _ _ (hs2.2 _ _ _ _ g (List.mem_of_getElem? f2) g2)) .nil))⟩⟩
theorem it_zipL {elts : List Expr} {kk : Nat} {tpos : Pos} (hm : X.mg "zip" = none) (he : EV X H0 δ e (.list ds)) (he2 : EV X H0 δ e2 (.list es)) (hg : Gl X "zip" := by rfl)
    (h1 : starEach [e, e2] X.env = (false, eval e X.env) :: starEach [e2] X.env := by rfl) (h2 : starEach [e2] X.env = [(false, eval e2 X.env)] := by rfl) (h3 : (backTo pos (starEach [e2] X.env)).any (·.1) = false := by rfl) :
    IT X H0 δ (.Tuple elts kk tpos) (.Call (.Name "zip" p) [e, e2] [] pos) (zipD ds es) Gc := ⟨_, RZ.pi_zipA hg hm (pa_cons c_e (pa_cons c_e pa_nil h2) h1) h1 h3, fun σ H E R r => he σ H E _ fun v H1 s1 q1 => he2 σ H1 (E.mono s1) _ fun u H2 s2 q2 => by
  cases q1 with
  | lst a1 d1 =>
    cases q2 with
    | lst a2 d2 =>
      have a1 := s2.seq a1
      have d1 := dpAll_same s2 _ _ d1
      refine ⟨_, _, _, _, rfl, .inl ⟨a1, a2, r _ _ (s1.trans s2) ⟨fun i H hi g => ?_, fun H g => ?_, fun i H x H' hi g y => ?_⟩⟩⟩
      · rw [zipD_len] at hi
        obtain ⟨x1, e1⟩ : ∃ d', ds[i]? = some d' := there (by omega)
        obtain ⟨x2, e2⟩ : ∃ d', es[i]? = some d' := there (by omega)
        obtain ⟨v1, f1, _⟩ := dpAll_get d1 e1
        obtain ⟨v2, f2, _⟩ := dpAll_get d2 e2
        exact ⟨_, _, v1, v2, g.seq a1, g.seq a2, f1, f2⟩
      · refine ⟨_, _, g.seq a1, g.seq a2, ?_⟩
        rw [zipD_len, dpAll_len d1, dpAll_len d2]; omega
      · obtain ⟨T, x1, x2, e1, hT, e2, y1, y2⟩ := y
        subst e1 e2
        obtain ⟨b1, f1, g1⟩ := dpAll_getV d1 (y1 _ (g.seq a1))
        obtain ⟨b2, f2, g2⟩ := dpAll_getV d2 (y2 _ (g.seq a2))
        have sm : Same H (upd H T (.tup [x1, x2])) := Same.new hT
        exact ⟨sm, _, zipD_get f1 f2, .tup (SqT.of upd_same) (.cons (dp_same sm _ _ (dp_same g _ _ g1)) (.cons (dp_same sm _ _ (dp_same g _ _ g2)) .nil))⟩⟩
end

/-! ### comprehensions -/
section
variable {X : Cx} {H0 : Hp} {δ : List Sl} {tg iter elt c : Expr} {ds : List PyData} {scope : Scope} {pos : Pos}
/-- the block's context -/
abbrev Blk (X : Cx) (scope : Scope) (s : Shared) (H : Hp) (C : Addr) (cl : List (Str × Addr)) (fp : List Addr) : Cx := X.blk s H scope (compEnvC scope cl C X.env) fp
def bE (X : Cx) (scope : Scope) (e : Expr) : TE := fun σ H Q => ∀ s Hb C cl fp, cE (Blk X scope s Hb C cl fp) e σ H Q
def bT (X : Cx) (scope : Scope) (e : Expr) : TT := fun σ H Q => ∀ s Hb C cl fp, cT (Blk X scope s Hb C cl fp) e σ H Q
/-- one name, no test -/
theorem el_lcN (i : Nat) {x : Str} {px : Pos} (nd : X.N.Nodup) (hc : X.calm = true) (hi : X.N[i]? = some x) (it : IT X H0 δ (.Name x px) iter ds Gc) (ok : BlkOk X.N X.env.scope scope [(x, i)])
    (hg : ∀ s Hb C cl fp, PG (Blk X scope s Hb C cl fp) (.Name x px) (gName i)) (es : List PyData) (hl : es.length = ds.length) (hn : nolAll es = true) (hz : ds.length ≤ 100000)
    (h : ∀ (k : Nat) (d e : PyData), ds[k]? = some d → es[k]? = some e → ∀ s Hb C cl fp, EV (Blk X scope s Hb C cl fp) H0 ((wipeS δ [i]).set i (.dat d)) elt e) (hs : ∀ x, foldedSetIterable iter X.env x = pure x := by intro _; rfl) :
    EL X H0 δ (.ListComp elt [⟨.Name x px, iter, [], 0⟩] scope pos) es := by
  obtain ⟨wi, hpi, hw⟩ := it
  intro σ H E Q q
  refine e_of (pe_lc (g := gName i) (tt := tYes) (te := bE X scope elt) hc nd hpi ok hg (fun _ _ _ _ _ => pts_nil) (fun s Hb C cl fp => ⟨fun pins s' σ' H' Q' I w => w s Hb C cl fp pins s' I⟩) hs) ?_
  refine hw σ H E _ fun J H1 s1 W D hD => ?_
  refine ⟨fun k m H' => m = ds.length - k ∧ k ≤ ds.length ∧ Same H1 H' ∧ ∃ vs, H' D = some (.lst vs) ∧ DpAll X.K H' vs (es.take k), ⟨ds.length, by simp, Nat.zero_le _, fun a o e => by rw [upd_ne (ne_of_none e hD)]; exact e, [], upd_same, .nil⟩, ?_⟩
  rintro k m H' ⟨rfl, hk, sm, vs, hv, dv⟩
  by_cases hlt : k < ds.length
  · refine .inr ⟨W.go k H' hlt sm, fun H'' => k + 1 ≤ ds.length ∧ Same H1 H'' ∧ ∃ vs, H'' D = some (.lst vs) ∧ DpAll X.K H'' vs (es.take (k + 1)), fun H'' ⟨a, b, c⟩ => ⟨ds.length - (k + 1), by omega, rfl, a, b, c⟩, fun v H2 y => ?_⟩
    obtain ⟨s2, d, e1, hd⟩ := W.yld k H' v H2 hlt sm y
    obtain ⟨e, e2⟩ : ∃ e, es[k]? = some e := there (by omega)
    have E2 : EnvD X.K H0 H2 ((L2.wipe σ [i]).set i (some v)) ((wipeS δ [i]).set i (.dat d)) := (((E.mono s1).mono sm).mono s2 |>.wipe [i]).setD i hd
    refine ⟨?_, ?_⟩
    · simp [L2.wipe]
    · show bE X scope elt _ _ _
      intro s Hb C cl fp
      refine h k d e e1 e2 s Hb C cl fp _ H2 E2 _ fun u H3 s3 h3 => ?_
      have hv3 : H3 D = some (.lst vs) := s3 _ _ (s2 _ _ hv)
      have hne : nol e = true := nolAll_get hn e2
      refine ⟨vs, hv3, ?_, hlt, fun a o q => ?_, _, upd_same, ?_⟩
      · have z := dpAll_len dv
        rw [List.length_take] at z
        exact Nat.lt_of_le_of_lt (show vs.length ≤ 100000 by omega) (by decide)
      · rw [upd_ne (ne_of_none q hD)]; exact s3 _ _ (s2 _ _ (sm _ _ q))
      · have T : Tup X.K H3 (upd H3 D (.lst (vs ++ [u]))) := tup_upd hv3
        have n1 : nolAll (es.take k) = true := by
          have z : nolAll (es.take k ++ es.drop k) = true := by rw [List.take_append_drop]; exact hn
          rw [nolAll_append, Bool.and_eq_true] at z
          exact z.1
        rw [List.take_add_one, e2]
        exact dpAll_append (dpAll_tup T _ _ n1 (dpAll_same s3 _ _ (dpAll_same s2 _ _ dv))) (.cons (dp_tup T _ _ hne h3) .nil)
  · have e : k = ds.length := by omega
    subst e
    refine .inl ⟨W.stop H' sm, ?_⟩
    rw [← hl, List.take_length] at dv
    exact q D vs H' (s1.trans sm) (s1.free hD) hv dv
/-- one name, one test: out tells what is kept -/
theorem el_lcI (i : Nat) {x : Str} {px : Pos} (nd : X.N.Nodup) (hc : X.calm = true) (hi : X.N[i]? = some x) (it : IT X H0 δ (.Name x px) iter ds Gc) (ok : BlkOk X.N X.env.scope scope [(x, i)])
    (hg : ∀ s Hb C cl fp, PG (Blk X scope s Hb C cl fp) (.Name x px) (gName i)) (out : Nat → List PyData) (h0 : out 0 = []) (hn : ∀ k, k ≤ ds.length → nolAll (out k) = true) (hz : ds.length ≤ 100000)
    (h : ∀ (k : Nat) (d : PyData), ds[k]? = some d → ∃ b, (∀ s Hb C cl fp, ET (Blk X scope s Hb C cl fp) H0 ((wipeS δ [i]).set i (.dat d)) c b) ∧ (b = true → ∃ e, out (k + 1) = out k ++ [e] ∧ ∀ s Hb C cl fp, EV (Blk X scope s Hb C cl fp) H0 ((wipeS δ [i]).set i (.dat d)) elt e) ∧ (b = false → out (k + 1) = out k))
    (hs : ∀ x, foldedSetIterable iter X.env x = pure x := by intro _; rfl) :
    EL X H0 δ (.ListComp elt [⟨.Name x px, iter, [c], 0⟩] scope pos) (out ds.length) := by
  obtain ⟨wi, hpi, hw⟩ := it
  intro σ H E Q q
  refine e_of (pe_lc (g := gName i) (tt := bT X scope c) (te := bE X scope elt) hc nd hpi ok hg (fun s Hb C cl fp => pts_one ⟨fun pins s' σ' H' Q' I w => w s Hb C cl fp pins s' I⟩) (fun s Hb C cl fp => ⟨fun pins s' σ' H' Q' I w => w s Hb C cl fp pins s' I⟩) hs) ?_
  refine hw σ H E _ fun J H1 s1 W D hD => ?_
  refine ⟨fun k m H' => m = ds.length - k ∧ k ≤ ds.length ∧ Same H1 H' ∧ ∃ vs, H' D = some (.lst vs) ∧ DpAll X.K H' vs (out k) ∧ vs.length ≤ k, ⟨ds.length, by simp, Nat.zero_le _, fun a o e => by rw [upd_ne (ne_of_none e hD)]; exact e, [], upd_same, by rw [h0]; exact .nil, Nat.le_refl _⟩, ?_⟩
  rintro k m H' ⟨rfl, hk, sm, vs, hv, dv, hvl⟩
  by_cases hlt : k < ds.length
  · refine .inr ⟨W.go k H' hlt sm, fun H'' => k + 1 ≤ ds.length ∧ Same H1 H'' ∧ ∃ vs, H'' D = some (.lst vs) ∧ DpAll X.K H'' vs (out (k + 1)) ∧ vs.length ≤ k + 1, fun H'' ⟨a, b, c⟩ => ⟨ds.length - (k + 1), by omega, rfl, a, b, c⟩, fun v H2 y => ?_⟩
    obtain ⟨s2, d, e1, hd⟩ := W.yld k H' v H2 hlt sm y
    obtain ⟨b, hb, ht, hf⟩ := h k d e1
    have E2 : EnvD X.K H0 H2 ((L2.wipe σ [i]).set i (some v)) ((wipeS δ [i]).set i (.dat d)) := (((E.mono s1).mono sm).mono s2 |>.wipe [i]).setD i hd
    refine ⟨?_, ?_⟩
    · simp [L2.wipe]
    · intro s Hb C cl fp
      refine hb s Hb C cl fp _ H2 E2 _ fun H3 s3 => ?_
      have hv3 : H3 D = some (.lst vs) := s3 _ _ (s2 _ _ hv)
      have dv3 := dpAll_same s3 _ _ (dpAll_same s2 _ _ dv)
      cases b with
      | false =>
        rw [if_neg Bool.false_ne_true]
        refine ⟨hlt, fun a o q => s3 _ _ (s2 _ _ (sm _ _ q)), vs, hv3, by rw [hf rfl]; exact dv3, Nat.le_succ_of_le hvl⟩
      | true =>
        rw [if_pos rfl]
        obtain ⟨e, e2, he⟩ := ht rfl
        intro s Hb C cl fp
        refine he s Hb C cl fp _ H3 (E2.mono s3) _ fun u H4 s4 h4 => ?_
        have hv4 : H4 D = some (.lst vs) := s4 _ _ hv3
        have n2 : nolAll (out (k + 1)) = true := hn (k + 1) hlt
        rw [e2, nolAll_append, Bool.and_eq_true] at n2
        have hne : nol e = true := by simpa [nolAll] using n2.2
        refine ⟨vs, hv4, ?_, hlt, fun a o q => ?_, _, upd_same, ?_, by simp; omega⟩
        · exact Nat.lt_of_le_of_lt (show vs.length ≤ 100000 by omega) (by decide)
        · rw [upd_ne (ne_of_none q hD)]; exact s4 _ _ (s3 _ _ (s2 _ _ (sm _ _ q)))
        · have T : Tup X.K H4 (upd H4 D (.lst (vs ++ [u]))) := tup_upd hv4
          rw [e2]
          exact dpAll_append (dpAll_tup T _ _ n2.1 (dpAll_same s4 _ _ dv3)) (.cons (dp_tup T _ _ hne h4) .nil)
  · have e : k = ds.length := by omega
    subst e
    exact .inl ⟨W.stop H' sm, q D vs H' (s1.trans sm) (s1.free hD) hv dv⟩
theorem wipe2 {i j : Nat} (h : i ≠ j) (σ : L2.St) (v1 v2 : V) : L2.wipe (((L2.wipe σ [i, j]).set i (some v1)).set j (some v2)) [i, j] = L2.wipe σ [i, j] := by
  show ((((((σ.set j none).set i none).set i (some v1)).set j (some v2)).set j none).set i none) = (σ.set j none).set i none
  rw [List.set_set, List.set_set, List.set_comm (some v1) none h, List.set_set, List.set_set]
/-- two names, no test -/
theorem r_lcT (i j : Nat) {x y : Str} {px py tpos : Pos} {kk : Nat} (nd : X.N.Nodup) (hc : X.calm = true) (hij : i ≠ j) (it : IT X H0 δ (.Tuple [.Name x px, .Name y py] kk tpos) iter ds Gc) (ok : BlkOk X.N X.env.scope scope [(x, i), (y, j)])
    (hg : ∀ s Hb C cl fp, PG (Blk X scope s Hb C cl fp) (.Tuple [.Name x px, .Name y py] kk tpos) (gTup X.K 2 (gCons (gName i) (gCons (gName j) gNil)))) (es : List PyData) (hl : es.length = ds.length) (hn : nolAll es = true) (hz : ds.length ≤ 100000)
    (h : ∀ (k : Nat) (d e : PyData), ds[k]? = some d → es[k]? = some e → ∃ d1 d2, d = .tuple [d1, d2] ∧ ∀ s Hb C cl fp, EV (Blk X scope s Hb C cl fp) H0 (((wipeS δ [i, j]).set i (.dat d1)).set j (.dat d2)) elt e) :
    ∃ wi, PI X (.Tuple [.Name x px, .Name y py] kk tpos) iter wi ∧ ∀ σ H, EnvD X.K H0 H σ δ → ∀ Q : VK, (∀ p vs H', Same H H' → H p = none → H' p = some (.lst vs) → DpAll X.K H' vs es → Q (.ref p) H') →
      tLc wi (gTup X.K 2 (gCons (gName i) (gCons (gName j) gNil))) tYes (bE X scope elt) [i, j] σ H Q := by
  obtain ⟨wi, hpi, hw⟩ := it
  refine ⟨wi, hpi, fun σ H E Q q => ?_⟩
  refine hw σ H E _ fun J H1 s1 W D hD => ?_
  refine ⟨fun k m H' => m = ds.length - k ∧ k ≤ ds.length ∧ Same H1 H' ∧ ∃ vs, H' D = some (.lst vs) ∧ DpAll X.K H' vs (es.take k), ⟨ds.length, by simp, Nat.zero_le _, fun a o e => by rw [upd_ne (ne_of_none e hD)]; exact e, [], upd_same, .nil⟩, ?_⟩
  rintro k m H' ⟨rfl, hk, sm, vs, hv, dv⟩
  by_cases hlt : k < ds.length
  · refine .inr ⟨W.go k H' hlt sm, fun H'' => k + 1 ≤ ds.length ∧ Same H1 H'' ∧ ∃ vs, H'' D = some (.lst vs) ∧ DpAll X.K H'' vs (es.take (k + 1)), fun H'' ⟨a, b, c⟩ => ⟨ds.length - (k + 1), by omega, rfl, a, b, c⟩, fun v H2 y => ?_⟩
    obtain ⟨s2, d, e1, hd⟩ := W.yld k H' v H2 hlt sm y
    obtain ⟨e, e2⟩ : ∃ e, es[k]? = some e := there (by omega)
    obtain ⟨d1, d2, ed, hel⟩ := h k d e e1 e2
    subst ed
    cases hd with
    | tup qT dT =>
      obtain ⟨v1, v2, ev, h1, h2⟩ := dp2 dT
      subst ev
      have E2 : EnvD X.K H0 H2 (((L2.wipe σ [i, j]).set i (some v1)).set j (some v2)) (((wipeS δ [i, j]).set i (.dat d1)).set j (.dat d2)) := ((((E.mono s1).mono sm).mono s2 |>.wipe [i, j]).setD i h1).setD j h2
      refine ⟨_, _, rfl, qT, rfl, v1, [v2], rfl, v2, [], rfl, rfl, ?_, ?_⟩
      · exact wipe2 hij σ v1 v2
      · show bE X scope elt _ _ _
        intro s Hb C cl fp
        refine hel s Hb C cl fp _ H2 E2 _ fun u H3 s3 h3 => ?_
        have hv3 : H3 D = some (.lst vs) := s3 _ _ (s2 _ _ hv)
        have hne : nol e = true := nolAll_get hn e2
        refine ⟨vs, hv3, ?_, hlt, fun a o q => ?_, _, upd_same, ?_⟩
        · have z := dpAll_len dv
          rw [List.length_take] at z
          exact Nat.lt_of_le_of_lt (show vs.length ≤ 100000 by omega) (by decide)
        · rw [upd_ne (ne_of_none q hD)]; exact s3 _ _ (s2 _ _ (sm _ _ q))
        · have T : Tup X.K H3 (upd H3 D (.lst (vs ++ [u]))) := tup_upd hv3
          have n1 : nolAll (es.take k) = true := by
            have z : nolAll (es.take k ++ es.drop k) = true := by rw [List.take_append_drop]; exact hn
            rw [nolAll_append, Bool.and_eq_true] at z
            exact z.1
          rw [List.take_add_one, e2]
          exact dpAll_append (dpAll_tup T _ _ n1 (dpAll_same s3 _ _ (dpAll_same s2 _ _ dv))) (.cons (dp_tup T _ _ hne h3) .nil)
  · have e : k = ds.length := by omega
    subst e
    refine .inl ⟨W.stop H' sm, ?_⟩
    rw [← hl, List.take_length] at dv
    exact q D vs H' (s1.trans sm) (s1.free hD) hv dv
theorem el_lcT (i j : Nat) {x y : Str} {px py tpos : Pos} {kk : Nat} (nd : X.N.Nodup) (hc : X.calm = true) (hij : i ≠ j) (it : IT X H0 δ (.Tuple [.Name x px, .Name y py] kk tpos) iter ds Gc) (ok : BlkOk X.N X.env.scope scope [(x, i), (y, j)])
    (hg : ∀ s Hb C cl fp, PG (Blk X scope s Hb C cl fp) (.Tuple [.Name x px, .Name y py] kk tpos) (gTup X.K 2 (gCons (gName i) (gCons (gName j) gNil)))) (es : List PyData) (hl : es.length = ds.length) (hn : nolAll es = true) (hz : ds.length ≤ 100000)
    (h : ∀ (k : Nat) (d e : PyData), ds[k]? = some d → es[k]? = some e → ∃ d1 d2, d = .tuple [d1, d2] ∧ ∀ s Hb C cl fp, EV (Blk X scope s Hb C cl fp) H0 (((wipeS δ [i, j]).set i (.dat d1)).set j (.dat d2)) elt e) (hs : ∀ x, foldedSetIterable iter X.env x = pure x := by intro _; rfl) :
    EL X H0 δ (.ListComp elt [⟨.Tuple [.Name x px, .Name y py] kk tpos, iter, [], 0⟩] scope pos) es := by
  obtain ⟨wi, hpi, hw⟩ := r_lcT i j nd hc hij it ok hg es hl hn hz h
  intro σ H E Q q
  exact e_of (pe_lc (tt := tYes) (te := bE X scope elt) hc nd hpi ok hg (fun _ _ _ _ _ => pts_nil) (fun s Hb C cl fp => ⟨fun pins s' σ' H' Q' I w => w s Hb C cl fp pins s' I⟩) hs) (hw σ H E Q q)
end
end RS

set_option Elab.async false
set_option linter.all false
set_option maxRecDepth 100000
set_option maxHeartbeats 4000000
/-! The data layer, third part: statements, defs. -/
namespace RS
open PySem PySem.Spec PyProof.Rows L2

structure De where
  nx : List Sl → Prop
  rt : PyData → Prop := fun _ => False
  rl : List PyData → Prop := fun _ => False
  bk : List Sl → Prop := fun _ => False
  ct : List Sl → Prop := fun _ => False
structure Meets (K : PySem.W.Frag) (H0 Hb : Hp) (D : De) (E : Ends) : Prop where
  nx : ∀ σ H δ, Tup K Hb H → EnvD K H0 H σ δ → D.nx δ → E.nx σ H
  rt : ∀ v H d, Same H0 H → Dp K H v d → D.rt d → E.rt v H
  rl : ∀ p vs H ds, Same H0 H → H0 p = none → H p = some (.lst vs) → DpAll K H vs ds → D.rl ds → E.rt (.ref p) H
  bk : ∀ σ H δ, Tup K Hb H → EnvD K H0 H σ δ → D.bk δ → E.bk σ H
  ct : ∀ σ H δ, Tup K Hb H → EnvD K H0 H σ δ → D.ct δ → E.ct σ H
theorem Meets.mono {K : PySem.W.Frag} {H0 Hb Hc : Hp} {D : De} {E : Ends} (m : Meets K H0 Hb D E) (t : Tup K Hb Hc) : Meets K H0 Hc D E :=
  ⟨fun σ H δ a => m.nx σ H δ (t.trans a), m.rt, m.rl, fun σ H δ a => m.bk σ H δ (t.trans a), fun σ H δ a => m.ct σ H δ (t.trans a)⟩
def SS (X : Cx) (H0 : Hp) (δ : List Sl) (sts : List Stmt) (D : De) : Prop := ∀ σ H, EnvD X.K H0 H σ δ → ∀ E : Ends, Meets X.K H0 H D E → cSs X sts E σ H
def S1 (X : Cx) (H0 : Hp) (δ : List Sl) (st : Stmt) (D : De) : Prop := ∀ σ H, EnvD X.K H0 H σ δ → ∀ E : Ends, Meets X.K H0 H D E → cS X st E σ H
section
variable {X : Cx} {H0 : Hp} {δ : List Sl} {st : Stmt} {rest : List Stmt} {D : De} {e a b c : Expr} {es : List Expr} {pos p : Pos} {d : PyData} {ds : List PyData} {k : Bool}
theorem ss_nil (h : D.nx δ) : SS X H0 δ [] D := fun σ H E En M => ss_of pss_nil (M.nx σ H δ (Tup.refl H) E h)
theorem ss_cons (h : S1 X H0 δ st { D with nx := fun δ' => SS X H0 δ' rest D }) : SS X H0 δ (st :: rest) D := fun σ H E En M =>
  ss_of (pss_cons c_s c_ss) (h σ H E _ ⟨fun σ' H' δ' t E' q => q σ' H' E' En (M.mono t), M.rt, M.rl, M.bk, M.ct⟩)
theorem ss_one (h : S1 X H0 δ st D) : SS X H0 δ [st] D := fun σ H E En M => ss_of (pss_one c_s) (h σ H E En M)
theorem s1_set (i : Nat) {x : Str} {pos' : Pos} (nd : X.N.Nodup) (h : EV X H0 δ e d) (q : D.nx (δ.set i (.dat d))) (hi : X.N[i]? = some x := by rfl) (hx : Loc X.env.scope x := by first | exact Or.inl rfl | exact Or.inr rfl) (hs : swapsWith e (some (.Name x pos')) pos.line X.env = pure false := by rfl)
    (hf : X.fn x = true ∨ X.env.scope.names.lookup x = some .local := by first | exact .inl rfl | exact .inr rfl) : S1 X H0 δ (.Assign [.Name x pos'] e pos) D := fun σ H E En M =>
  s_of (ps_set nd hi hx c_e hs hf) (h σ H E _ fun v H1 s1 h1 => M.nx _ _ _ (Tup.of s1) ((E.mono s1).setD i h1) q)
theorem s1_setL (i : Nat) {x : Str} {pos' : Pos} (nd : X.N.Nodup) (h : EL X H0 δ e ds) (hn : nolAll ds = true) (q : D.nx (δ.set i (.own ds))) (hi : X.N[i]? = some x := by rfl) (hx : Loc X.env.scope x := by first | exact Or.inl rfl | exact Or.inr rfl) (hs : swapsWith e (some (.Name x pos')) pos.line X.env = pure false := by rfl)
    (hf : X.fn x = true ∨ X.env.scope.names.lookup x = some .local := by first | exact .inl rfl | exact .inr rfl) : S1 X H0 δ (.Assign [.Name x pos'] e pos) D := fun σ H E En M =>
  s_of (ps_set nd hi hx c_e hs hf) (h σ H E _ fun p vs H1 s1 hp h1 h2 => M.nx _ _ _ (Tup.of s1) (E.setO s1 i hp h1 h2 hn) q)
theorem s1_ret (h : EV X H0 δ e d) (q : D.rt d) : S1 X H0 δ (.Return (some e) pos) D := fun σ H E En M =>
  s_of (ps_ret c_e) (h σ H E _ fun v H1 s1 h1 => M.rt v H1 d (E.ex.trans s1) h1 q)
theorem s1_retL (h : EL X H0 δ e ds) (q : D.rl ds) : S1 X H0 δ (.Return (some e) pos) D := fun σ H E En M =>
  s_of (ps_ret c_e) (h σ H E _ fun p vs H1 s1 hp h1 h2 => M.rl p vs H1 ds (E.ex.trans s1) (E.ex.free hp) h1 h2 q)
/-- an own list handed back -/
theorem s1_retO (i : Nat) {x : Str} {px : Pos} (h : δ[i]? = some (.own ds)) (q : D.rl ds) (hN : X.N[i]? = some x := by rfl) (hv : Vis X.env.scope x := by first | exact Or.inl rfl | exact Or.inr (Or.inl rfl)) (hd : (x == ("__debug__" : Str)) = false := by decide) (hcd : (x == ("__classdict__" : Str)) = false := by decide) :
    S1 X H0 δ (.Return (some (.Name x px)) pos) D := fun σ H E En M => by
  obtain ⟨l, vs, e1, h0, h1, h2, _⟩ := E.getOwn h
  exact s_of (ps_ret (pe_var hN hv hd hcd)) ⟨_, e1, M.rl l vs H ds E.ex h0 h1 h2 q⟩
theorem s1_if (h : ET X H0 δ c k) {as bs : List Stmt} (h1 : k = true → SS X H0 δ as D) (h2 : k = false → SS X H0 δ bs D) : S1 X H0 δ (.If c as bs pos) D := fun σ H E En M =>
  s_of (ps_if c_t c_ss c_ss) (h σ H E _ fun H1 s1 => by
    cases k with
    | true => show cSs _ _ _ _ _; exact h1 rfl σ H1 (E.mono s1) En (M.mono (Tup.of s1))
    | false => show cSs _ _ _ _ _; exact h2 rfl σ H1 (E.mono s1) En (M.mono (Tup.of s1)))
theorem s1_ifT (h : ET X H0 δ c true) {as bs : List Stmt} (h1 : SS X H0 δ as D) : S1 X H0 δ (.If c as bs pos) D := s1_if h (fun _ => h1) (fun q => by cases q)
theorem s1_ifF (h : ET X H0 δ c false) {as bs : List Stmt} (h1 : SS X H0 δ bs D) : S1 X H0 δ (.If c as bs pos) D := s1_if h (fun q => by cases q) fun _ => h1
theorem s1_drop (h : EV X H0 δ e d) (q : D.nx δ) (hs : swapsWith e none pos.line X.env = pure false := by rfl) : S1 X H0 δ (.Expr e pos) D := fun σ H E En M =>
  s_of (ps_expr c_e hs) (h σ H E _ fun v H1 s1 h1 => M.nx _ _ _ (Tup.of s1) (E.mono s1) q)
theorem s1_augI (i : Nat) {x : Str} {pos' : Pos} {op : Operator} {f : Int → Int → Int} {m n : Int} (nd : X.N.Nodup) (ho : PIp X op (ipI f)) (h : EV X H0 δ e (.int n)) (q : D.nx (δ.set i (.dat (.int (f m n))))) (hd : (δ[i]?.bind Sl.data) = some (.int m) := by rfl) (hi : X.N[i]? = some x := by rfl) (hx : Loc X.env.scope x := by first | exact Or.inl rfl | exact Or.inr rfl)
    (hf : X.fn x = true ∨ X.env.scope.names.lookup x = some .local := by first | exact .inl rfl | exact .inr rfl) : S1 X H0 δ (.AugAssign (.Name x pos') op e pos) D := fun σ H E En M => by
  obtain ⟨v, e1, hv⟩ := E.get hd
  cases hv
  exact s_of (ps_aug nd hi hx c_e ho hf) ⟨_, e1, h σ H E _ fun u H1 s1 hu => by
    cases hu
    exact ⟨m, n, rfl, rfl, M.nx _ _ _ (Tup.of s1) ((E.mono s1).setD i (.int _)) q⟩⟩
/-! loops -/
theorem s1_forN (i : Nat) {x : Str} {px : Pos} {iter : Expr} {body : List Stmt} (nd : X.N.Nodup) (hp : PassesOwn (model X.prog X.w) X.A X.env X.xe) (hc : X.calm = true) (it : IT X H0 δ (.Name x px) iter ds (Gl' X.K H0)) (P : Nat → List Sl → Prop) (h0 : P 0 δ)
    (h : ∀ (n : Nat) (d : PyData) (δ' : List Sl), ds[n]? = some d → P n δ' → SS X H0 (δ'.set i (.dat d)) body { D with nx := P (n + 1), ct := P (n + 1), bk := D.nx }) (hd : ∀ δ', P ds.length δ' → D.nx δ')
    (hi : X.N[i]? = some x := by rfl) (hx : Loc X.env.scope x := by first | exact Or.inl rfl | exact Or.inr rfl) (hf : X.fn x = true ∨ X.env.scope.names.lookup x = some .local := by first | exact .inl rfl | exact .inr rfl) (hs : ∀ x, foldedSetIterable iter X.env x = pure x := by intro _; rfl) :
    S1 X H0 δ (.For (.Name x px) iter body [] pos) D := by
  obtain ⟨wi, hpi, hw⟩ := it
  intro σ H E En M
  refine s_of (ps_for hp hc hpi (pg_name nd hi hx hf) c_ss hs) ?_
  refine hw σ H E _ fun J H1 s1 W => ?_
  refine ⟨fun n m σ' H' => m = ds.length - n ∧ n ≤ ds.length ∧ Tup X.K H1 H' ∧ ∃ δ', EnvD X.K H0 H' σ' δ' ∧ P n δ', ⟨ds.length, by simp, Nat.zero_le _, Tup.refl _, δ, E.mono s1, h0⟩, ?_⟩
  rintro n m σ' H' ⟨rfl, hn, tp, δ', E', p'⟩
  by_cases hlt : n < ds.length
  · refine .inr ⟨W.go n H' hlt ⟨E'.ex, tp⟩, fun σ2 H2 => n + 1 ≤ ds.length ∧ Tup X.K H1 H2 ∧ ∃ δ', EnvD X.K H0 H2 σ2 δ' ∧ P (n + 1) δ', fun σ2 H2 ⟨a, b, c⟩ => ⟨ds.length - (n + 1), by omega, rfl, a, b, c⟩, fun v H2 y => ?_⟩
    obtain ⟨s2, d, e1, hd'⟩ := W.yld n H' v H2 hlt ⟨E'.ex, tp⟩ y
    have t2 : Tup X.K H1 H2 := tp.trans (Tup.of s2)
    refine h n d δ' e1 p' _ H2 ((E'.mono s2).setD i hd') _ ⟨fun σ3 H3 δ3 t E3 q => ⟨hlt, t2.trans t, δ3, E3, q⟩, M.rt, M.rl, fun σ3 H3 δ3 t E3 q => ?_, fun σ3 H3 δ3 t E3 q => ⟨hlt, t2.trans t, δ3, E3, q⟩⟩
    exact M.nx σ3 H3 δ3 ((Tup.of s1).trans (t2.trans t)) E3 q
  · have e : n = ds.length := by omega
    subst e
    exact .inl ⟨W.stop H' ⟨E'.ex, tp⟩, M.nx σ' H' δ' ((Tup.of s1).trans tp) E' (hd δ' p')⟩
theorem s1_forT (i j : Nat) {x y : Str} {px py tpos : Pos} {kk : Nat} {iter : Expr} {body : List Stmt} (nd : X.N.Nodup) (hp : PassesOwn (model X.prog X.w) X.A X.env X.xe) (hc : X.calm = true) (it : IT X H0 δ (.Tuple [.Name x px, .Name y py] kk tpos) iter ds (Gl' X.K H0)) (P : Nat → List Sl → Prop) (h0 : P 0 δ)
    (h : ∀ (n : Nat) (d : PyData) (δ' : List Sl), ds[n]? = some d → P n δ' → ∃ d1 d2, d = .tuple [d1, d2] ∧ SS X H0 ((δ'.set i (.dat d1)).set j (.dat d2)) body { D with nx := P (n + 1), ct := P (n + 1), bk := D.nx }) (hd : ∀ δ', P ds.length δ' → D.nx δ')
    (hg : PG X (.Tuple [.Name x px, .Name y py] kk tpos) (gTup X.K 2 (gCons (gName i) (gCons (gName j) gNil)))) (hs : ∀ x, foldedSetIterable iter X.env x = pure x := by intro _; rfl) :
    S1 X H0 δ (.For (.Tuple [.Name x px, .Name y py] kk tpos) iter body [] pos) D := by
  obtain ⟨wi, hpi, hw⟩ := it
  intro σ H E En M
  refine s_of (ps_for hp hc hpi hg c_ss hs) ?_
  refine hw σ H E _ fun J H1 s1 W => ?_
  refine ⟨fun n m σ' H' => m = ds.length - n ∧ n ≤ ds.length ∧ Tup X.K H1 H' ∧ ∃ δ', EnvD X.K H0 H' σ' δ' ∧ P n δ', ⟨ds.length, by simp, Nat.zero_le _, Tup.refl _, δ, E.mono s1, h0⟩, ?_⟩
  rintro n m σ' H' ⟨rfl, hn, tp, δ', E', p'⟩
  by_cases hlt : n < ds.length
  · refine .inr ⟨W.go n H' hlt ⟨E'.ex, tp⟩, fun σ2 H2 => n + 1 ≤ ds.length ∧ Tup X.K H1 H2 ∧ ∃ δ', EnvD X.K H0 H2 σ2 δ' ∧ P (n + 1) δ', fun σ2 H2 ⟨a, b, c⟩ => ⟨ds.length - (n + 1), by omega, rfl, a, b, c⟩, fun v H2 y => ?_⟩
    obtain ⟨s2, d, e1, hd'⟩ := W.yld n H' v H2 hlt ⟨E'.ex, tp⟩ y
    have t2 : Tup X.K H1 H2 := tp.trans (Tup.of s2)
    obtain ⟨d1, d2, ed, hb⟩ := h n d δ' e1 p'
    subst ed
    cases hd' with
    | tup qT dT =>
      obtain ⟨v1, v2, ev, g1, g2⟩ := dp2 dT
      subst ev
      refine ⟨_, _, rfl, qT, rfl, v1, [v2], rfl, v2, [], rfl, rfl, ?_⟩
      refine hb _ H2 (((E'.mono s2).setD i g1).setD j g2) _ ⟨fun σ3 H3 δ3 t E3 q => ⟨hlt, t2.trans t, δ3, E3, q⟩, M.rt, M.rl, fun σ3 H3 δ3 t E3 q => ?_, fun σ3 H3 δ3 t E3 q => ⟨hlt, t2.trans t, δ3, E3, q⟩⟩
      exact M.nx σ3 H3 δ3 ((Tup.of s1).trans (t2.trans t)) E3 q
  · have e : n = ds.length := by omega
    subst e
    exact .inl ⟨W.stop H' ⟨E'.ex, tp⟩, M.nx σ' H' δ' ((Tup.of s1).trans tp) E' (hd δ' p')⟩
theorem s1_while {body : List Stmt} (hp : PassesOwn (model X.prog X.w) X.A X.env X.xe) (P : Nat → List Sl → Prop) (n0 : Nat) (h0 : P n0 δ)
    (h : ∀ (n : Nat) (δ' : List Sl), P n δ' → ∃ b, ET X H0 δ' c b ∧ (b = true → ∃ N, (∀ δ'', N δ'' → ∃ m, m < n ∧ P m δ'') ∧ SS X H0 δ' body { D with nx := N, ct := N, bk := D.nx }) ∧ (b = false → D.nx δ')) : S1 X H0 δ (.While c body [] pos) D := by
  intro σ H E En M
  refine s_of (ps_while hp c_t c_ss) ?_
  refine ⟨fun m σ' H' => Tup X.K H H' ∧ ∃ δ', EnvD X.K H0 H' σ' δ' ∧ P m δ', ⟨n0, Tup.refl H, δ, E, h0⟩, ?_⟩
  rintro m σ' H' ⟨tp, δ', E', p'⟩
  obtain ⟨b, hb, h1, h2⟩ := h m δ' p'
  refine hb σ' H' E' _ fun H1 s1 => ?_
  have t1 : Tup X.K H H1 := tp.trans (Tup.of s1)
  cases b with
  | true =>
    rw [if_pos rfl]
    obtain ⟨N, hN, hS⟩ := h1 rfl
    refine ⟨fun σ2 H2 => Tup X.K H H2 ∧ ∃ δ'', EnvD X.K H0 H2 σ2 δ'' ∧ N δ'', fun σ2 H2 ⟨a, δ2, b, c⟩ => ?_, ?_⟩
    · obtain ⟨m', hm, q⟩ := hN δ2 c
      exact ⟨m', hm, a, δ2, b, q⟩
    · exact hS σ' H1 (E'.mono s1) _ ⟨fun σ3 H3 δ3 t E3 q => ⟨t1.trans t, δ3, E3, q⟩, M.rt, M.rl, fun σ3 H3 δ3 t E3 q => M.nx σ3 H3 δ3 (t1.trans t) E3 q, fun σ3 H3 δ3 t E3 q => ⟨t1.trans t, δ3, E3, q⟩⟩
  | false =>
    rw [if_neg Bool.false_ne_true]
    exact M.nx σ' H1 δ' t1 (E'.mono s1) (h2 rfl)
/-! own lists changed -/
theorem s1_append (i : Nat) {x : Str} {px apos cpos : Pos} (h : δ[i]? = some (.own ds)) (hk : δ.all Sl.keep = true) (he : EV X H0 δ e d) (hn : nol d = true) (hz : ds.length < 100000) (q : D.nx (δ.set i (.own (ds ++ [d]))))
    (hp : PE X (.Call (.Attribute (.Name x px) "append" apos) [e] [] cpos) (tBM X.K "list" rAppend (tVar i) (tCons (cE X e) tNil))) (hs : swapsWith (.Call (.Attribute (.Name x px) "append" apos) [e] [] cpos) none pos.line X.env = pure false := by rfl) :
    S1 X H0 δ (.Expr (.Call (.Attribute (.Name x px) "append" apos) [e] [] cpos) pos) D := fun σ H E En M => by
  obtain ⟨l, vs, e1, h0, h1, h2, h3⟩ := E.getOwn h
  refine s_of (ps_expr hp hs) ⟨_, e1, .inl ⟨rfl, _, SqL.of h1⟩, he σ H E _ fun v H1 s1 hd => ?_⟩
  have h1' := s1 _ _ h1
  have h2' := dpAll_same s1 _ _ h2
  refine ⟨l, vs, v, rfl, rfl, h1', Nat.lt_trans (by rw [dpAll_len h2]; exact hz) (by decide), ?_⟩
  refine M.nx σ _ _ ((Tup.of s1).trans (tup_upd h1')) ((E.mono s1).change i h hk e1 h1' (dpAll_append h2' (.cons hd .nil)) ?_) q
  rw [nolAll_append, h3, Bool.true_and]
  simp [nolAll, hn]
theorem s1_extend (i j : Nat) {x y : Str} {px py apos cpos : Pos} {es : List PyData} (h : δ[i]? = some (.own ds)) (h' : δ[j]? = some (.own es)) (hk : δ.all Sl.keep = true) (hz : ds.length + es.length < 100000) (q : D.nx (δ.set i (.own (ds ++ es))))
    (hp : PE X (.Call (.Attribute (.Name x px) "extend" apos) [.Name y py] [] cpos) (tBM X.K "list" rExtend (tVar i) (tCons (tVar j) tNil))) (hs : swapsWith (.Call (.Attribute (.Name x px) "extend" apos) [.Name y py] [] cpos) none pos.line X.env = pure false := by rfl) :
    S1 X H0 δ (.Expr (.Call (.Attribute (.Name x px) "extend" apos) [.Name y py] [] cpos) pos) D := fun σ H E En M => by
  obtain ⟨l, vs, e1, h0, h1, h2, h3⟩ := E.getOwn h
  obtain ⟨l2, ws, f1, g0, g1, g2, g3⟩ := E.getOwn h'
  refine s_of (ps_expr hp hs) ⟨_, e1, .inl ⟨rfl, _, SqL.of h1⟩, _, f1, l, l2, vs, ws, rfl, rfl, h1, g1, Nat.le_trans (by rw [dpAll_len h2, dpAll_len g2]; exact Nat.le_of_lt hz) (by decide), ?_⟩
  refine M.nx σ _ _ (tup_upd h1) (E.change i h hk e1 h1 (dpAll_append h2 g2) ?_) q
  rw [nolAll_append, h3, g3]; rfl
theorem s1_setitem (i : Nat) {x : Str} {px tpos : Pos} {ix : Expr} {n : Int} {m : Nat} (h : δ[i]? = some (.own ds)) (hk : δ.all Sl.keep = true) (he : EV X H0 δ e d) (hix : EV X H0 δ ix (.int n)) (hm : ixN ds.length n = some m) (hn : nol d = true) (q : D.nx (δ.set i (.own (ds.set m d))))
    (hp : PG X (.Subscript (.Name x px) ix tpos) (gSub (tVar i) (cE X ix) rSetL)) (hs : swapsWithSole [.Subscript (.Name x px) ix tpos] e pos.line X.env = pure false := by rfl) (hw : swappedStores [.Subscript (.Name x px) ix tpos] e X.env = pure none := by rfl)
    (h1 : (assignEach [.Subscript (.Name x px) ix tpos] X.env).map (·.2) = [assign (.Subscript (.Name x px) ix tpos) X.env] := by rfl) :
    S1 X H0 δ (.Assign [.Subscript (.Name x px) ix tpos] e pos) D := fun σ H E En M => by
  refine s_of (ps_asg c_e hp hs hw h1) (he σ H E _ fun v H1 s1 hd => ?_)
  have E1 := E.mono s1
  obtain ⟨l, vs, e1, h0, g1, g2, g3⟩ := E1.getOwn h
  refine ⟨_, e1, hix σ H1 E1 _ fun u H2 s2 hu => ?_⟩
  cases hu
  have g1' := s2 _ _ g1
  refine ⟨l, vs, n, m, rfl, rfl, g1', by rw [dpAll_len g2]; exact hm, ?_⟩
  exact M.nx σ _ _ ((Tup.of (s1.trans s2)).trans (tup_upd g1')) ((E1.mono s2).change i h hk e1 g1' (dpAll_set m (dp_same s2 _ _ hd) (dpAll_same s2 _ _ g2)) (nolAll_set m g3 hn)) q
/-! several names at once -/
def RK (K : PySem.W.Frag) (Hb H : Hp) (v : V) : Sl → Prop
  | .dat d => Dp K H v d
  | .own ds => ∃ p vs, v = .ref p ∧ Hb p = none ∧ H p = some (.lst vs) ∧ DpAll K H vs ds ∧ nolAll ds = true
  | _ => False
theorem EnvD.setS {K : PySem.W.Frag} {H0 Hb H : Hp} {σ : L2.St} {δ : List Sl} (E : EnvD K H0 Hb σ δ) (e : Same Hb H) (i : Nat) {v : V} {s : Sl} (h : RK K Hb H v s) : EnvD K H0 H (σ.set i (some v)) (δ.set i s) := by
  cases s with
  | non => cases h
  | arg d => cases h
  | raw v => cases h
  | dat d => exact (E.mono e).setD i h
  | own ds =>
    obtain ⟨p, vs, rfl, h1, h2, h3, h4⟩ := h
    exact E.setO e i h1 h2 h3 h4
def ES (X : Cx) (H0 : Hp) (δ : List Sl) (e : Expr) (s : Sl) : Prop := ∀ σ H, EnvD X.K H0 H σ δ → ∀ Q : VK, (∀ v H', Same H H' → RK X.K H H' v s → Q v H') → cE X e σ H Q
theorem es_d (h : EV X H0 δ e d) : ES X H0 δ e (.dat d) := fun σ H E Q q => h σ H E Q fun v H' s h => q v H' s h
theorem es_l (h : EL X H0 δ e ds) (hn : nolAll ds = true) : ES X H0 δ e (.own ds) := fun σ H E Q q => h σ H E Q fun p vs H' s hp h1 h2 => q _ H' s ⟨p, vs, rfl, hp, h1, h2, hn⟩
theorem s1_par2 (i j : Nat) {x y : Str} {px py pt pt2 : Pos} {kt k2 : Nat} {s1 s2 : Sl} (hc : X.calm = true) (nd : X.N.Nodup) (hij : i ≠ j) (ha : ES X H0 δ a s1) (hb : ES X H0 δ b s2) (q : D.nx ((δ.set i s1).set j s2))
    (hi : X.N[i]? = some x := by rfl) (hj : X.N[j]? = some y := by rfl) (hx : X.env.scope.names.lookup x = some .local := by rfl) (hy : X.env.scope.names.lookup y = some .local := by rfl)
    (hw : swappedStores [.Tuple [.Name x px, .Name y py] kt pt] (.Tuple [a, b] k2 pt2) X.env = pure (some [x, y]) := by rfl)
    (hs : swapsWithSole [.Tuple [.Name x px, .Name y py] kt pt] (.Tuple [a, b] k2 pt2) pos.line X.env = pure false := by rfl)
    (h1 : starEach [a, b] X.env = (false, eval a X.env) :: starEach [b] X.env := by rfl) (h2 : starEach [b] X.env = (false, eval b X.env) :: starEach [] X.env := by rfl) :
    S1 X H0 δ (.Assign [.Tuple [.Name x px, .Name y py] kt pt] (.Tuple [a, b] k2 pt2) pos) D := fun σ H E En M =>
  s_of (ps_par hc nd hi hj hij hx hy (pa_cons c_e (pa_cons c_e pa_nil h2) h1) hw hs) (ha σ H E _ fun v H1 t1 r1 => hb σ H1 (E.mono t1) _ fun u H2 t2 r2 =>
    ⟨v, u, rfl, M.nx _ _ _ (Tup.of (t1.trans t2)) ((E.setS t1 i r1).setS t2 j r2) q⟩)
/-- a tuple taken apart to three names -/
theorem s1_unp3 (i j l : Nat) {x y z : Str} {px py pz pt : Pos} {kt : Nat} {d1 d2 d3 : PyData} (h : EV X H0 δ e (.tuple [d1, d2, d3])) (q : D.nx (((δ.set i (.dat d1)).set j (.dat d2)).set l (.dat d3)))
    (hg : PG X (.Tuple [.Name x px, .Name y py, .Name z pz] kt pt) (gTup X.K 3 (gCons (gName i) (gCons (gName j) (gCons (gName l) gNil)))))
    (hs : swapsWithSole [.Tuple [.Name x px, .Name y py, .Name z pz] kt pt] e pos.line X.env = pure false := by rfl) (hw : swappedStores [.Tuple [.Name x px, .Name y py, .Name z pz] kt pt] e X.env = pure none := by rfl)
    (h1 : (assignEach [.Tuple [.Name x px, .Name y py, .Name z pz] kt pt] X.env).map (·.2) = [assign (.Tuple [.Name x px, .Name y py, .Name z pz] kt pt) X.env] := by rfl) :
    S1 X H0 δ (.Assign [.Tuple [.Name x px, .Name y py, .Name z pz] kt pt] e pos) D := fun σ H E En M =>
  s_of (ps_asg c_e hg hs hw h1) (h σ H E _ fun v H1 s1 hd => by
    cases hd with
    | tup qT dT =>
      cases dT with
      | cons a1 dT => cases dT with
        | cons a2 dT => cases dT with
          | cons a3 dT =>
            cases dT
            exact ⟨_, _, rfl, qT, rfl, _, _, rfl, _, _, rfl, _, _, rfl, rfl, M.nx _ _ _ (Tup.of s1) ((((E.mono s1).setD i a1).setD j a2).setD l a3) q⟩)
/-- four names, four values -/
theorem s1_par4 (i j l m : Nat) {x y z u : Str} {px py pz pu pt pt2 : Pos} {kt k2 : Nat} {e1 e2 e3 e4 : Expr} {t1 t2 t3 t4 : Sl} (h1 : ES X H0 δ e1 t1) (h2 : ES X H0 δ e2 t2) (h3 : ES X H0 δ e3 t3) (h4 : ES X H0 δ e4 t4) (q : D.nx ((((δ.set i t1).set j t2).set l t3).set m t4))
    (hg : PG X (.Tuple [.Name x px, .Name y py, .Name z pz, .Name u pu] kt pt) (gTup X.K 4 (gCons (gName i) (gCons (gName j) (gCons (gName l) (gCons (gName m) gNil))))))
    (hs : swapsWithSole [.Tuple [.Name x px, .Name y py, .Name z pz, .Name u pu] kt pt] (.Tuple [e1, e2, e3, e4] k2 pt2) pos.line X.env = pure false := by rfl) (hw : swappedStores [.Tuple [.Name x px, .Name y py, .Name z pz, .Name u pu] kt pt] (.Tuple [e1, e2, e3, e4] k2 pt2) X.env = pure none := by rfl)
    (ha : (assignEach [.Tuple [.Name x px, .Name y py, .Name z pz, .Name u pu] kt pt] X.env).map (·.2) = [assign (.Tuple [.Name x px, .Name y py, .Name z pz, .Name u pu] kt pt) X.env] := by rfl)
    (s1 : starEach [e1, e2, e3, e4] X.env = (false, eval e1 X.env) :: starEach [e2, e3, e4] X.env := by rfl) (s2 : starEach [e2, e3, e4] X.env = (false, eval e2 X.env) :: starEach [e3, e4] X.env := by rfl) (s3 : starEach [e3, e4] X.env = (false, eval e3 X.env) :: starEach [e4] X.env := by rfl) (s4 : starEach [e4] X.env = (false, eval e4 X.env) :: starEach [] X.env := by rfl) :
    S1 X H0 δ (.Assign [.Tuple [.Name x px, .Name y py, .Name z pz, .Name u pu] kt pt] (.Tuple [e1, e2, e3, e4] k2 pt2) pos) D := fun σ H E En M =>
  s_of (ps_asg (pe_tup (pa_cons c_e (pa_cons c_e (pa_cons c_e (pa_cons c_e pa_nil s4) s3) s2) s1)) hg hs hw ha) (h1 σ H E _ fun v1 H1 m1 r1 => h2 σ H1 (E.mono m1) _ fun v2 H2 m2 r2 => h3 σ H2 (E.mono (m1.trans m2)) _ fun v3 H3 m3 r3 => h4 σ H3 (E.mono ((m1.trans m2).trans m3)) _ fun v4 H4 m4 r4 =>
    ⟨by show 4 ≤ sizeLine; decide, fun p hp => ⟨p, _, rfl, SqT.of upd_same, rfl, _, _, rfl, _, _, rfl, _, _, rfl, _, _, rfl, rfl, by
      have F := ((((E.setS m1 i r1).setS m2 j r2).setS m3 l r3).setS m4 m r4)
      exact M.nx _ _ _ (Tup.of ((((m1.trans m2).trans m3).trans m4).trans (Same.new hp))) (F.mono (Same.new hp)) q⟩⟩)
/-- name = [.. for a, b in ..] -/
theorem s1_setLcT (i0 i j : Nat) {y0 x y : Str} {py0 px py tpos spos : Pos} {kk : Nat} {iter elt : Expr} {scope : Scope} {es : List PyData} (nd : X.N.Nodup) (hc : X.calm = true) (hij : i ≠ j) (it : IT X H0 δ (.Tuple [.Name x px, .Name y py] kk tpos) iter ds Gc) (ok : BlkOk X.N X.env.scope scope [(x, i), (y, j)])
    (hg : ∀ s Hb C cl fp, PG (Blk X scope s Hb C cl fp) (.Tuple [.Name x px, .Name y py] kk tpos) (gTup X.K 2 (gCons (gName i) (gCons (gName j) gNil)))) (hl : es.length = ds.length) (hn : nolAll es = true) (hz : ds.length ≤ 100000)
    (h : ∀ (k : Nat) (d e : PyData), ds[k]? = some d → es[k]? = some e → ∃ d1 d2, d = .tuple [d1, d2] ∧ ∀ s Hb C cl fp, EV (Blk X scope s Hb C cl fp) H0 (((wipeS δ [i, j]).set i (.dat d1)).set j (.dat d2)) elt e) (q : D.nx (δ.set i0 (.own es)))
    (hsw : swapsWith (.ListComp elt [⟨.Tuple [.Name x px, .Name y py] kk tpos, iter, [], 0⟩] scope pos) (some (.Name y0 py0)) spos.line X.env = pure true) (hy : X.N[i0]? = some y0 := by rfl) (hyl : X.env.scope.names.lookup y0 = some .local := by rfl) (hs : ∀ x, foldedSetIterable iter X.env x = pure x := by intro _; rfl) :
    S1 X H0 δ (.Assign [.Name y0 py0] (.ListComp elt [⟨.Tuple [.Name x px, .Name y py] kk tpos, iter, [], 0⟩] scope pos) spos) D := by
  obtain ⟨wi, hpi, hw⟩ := r_lcT i j nd hc hij it ok hg es hl hn hz h
  intro σ H E En M
  exact s_of (ps_setLc (tt := tYes) (te := bE X scope elt) hc nd hy hyl hsw hpi ok hg (fun _ _ _ _ _ => pts_nil) (fun s Hb C cl fp => ⟨fun pins s' σ' H' Q' I w => w s Hb C cl fp pins s' I⟩) hs)
    (hw σ H E _ fun p vs H1 s1 hp h1 h2 => M.nx _ _ _ (Tup.of s1) (E.setO s1 i0 hp h1 h2 hn) q)
end

/-! ### defs -/
def spD (K : PySem.W.Frag) (R : List PyData → PyData → Prop) : Sp := fun vs H Q _ => ∃ ds d, DpAll K H vs ds ∧ R ds d ∧ ∀ v H', Same H H' → Dp K H' v d → Q v H'
def spL (K : PySem.W.Frag) (R : List PyData → List PyData → Prop) : Sp := fun vs H Q _ => ∃ ds es, DpAll K H vs ds ∧ R ds es ∧ ∀ p ws H', Same H H' → H p = none → H' p = some (.lst ws) → DpAll K H' ws es → Q (.ref p) H'
/-- a def of the module by its name keeps a promise -/
structure Fn (P : Program) (w : World) (K : PySem.W.Frag) (mg : Str → Option Value) (base : Heap) (x : Str) (ps : List Str) (k : Nat) (sp : Sp) : Prop where
  ex : ∃ f fd, mg x = some (.ref f) ∧ PySem.W.keepIn K (.ref f) = true ∧ Binds K fd ps [] ∧ FnOk P w K mg base CX0 k f fd ps sp
/-- a def of the module by its name stands -/
structure Df (K : PySem.W.Frag) (mg : Str → Option Value) (x : Str) (st : Stmt) : Prop where
  ex : ∃ f fd, mg x = some (.ref f) ∧ Fun K x x st f fd
def init (N : List Str) (ds : List PyData) : List Sl := ds.map .arg ++ List.replicate (N.length - ds.length) .non
theorem env_init {K : PySem.W.Frag} {H : Hp} {N : List Str} {vs : List V} {ds : List PyData} (h : DpAll K H vs ds) : EnvD K H H (start N vs) (init N ds) := by
  have hl := dpAll_len h
  refine ⟨Same.refl H, by simp [L2.start, init, hl], fun i s e => ?_, fun i j xs ys l e1 _ _ _ => ?_⟩
  · unfold init at e
    by_cases hi : i < ds.length
    · rw [List.getElem?_append_left (by simpa using hi), List.getElem?_map] at e
      obtain ⟨d, e1⟩ := there hi
      rw [e1] at e
      cases e
      obtain ⟨v, e2, e3⟩ := dpAll_get h e1
      refine ⟨v, ?_, e3⟩
      unfold L2.start
      rw [List.getElem?_append_left (by rw [List.length_map, hl]; exact hi), List.getElem?_map, e2]
      rfl
    · rw [List.getElem?_append_right (by simpa using hi), List.getElem?_replicate] at e
      split at e
      · cases e; trivial
      · cases e
  · unfold init at e1
    by_cases hi : i < ds.length
    · rw [List.getElem?_append_left (by simpa using hi), List.getElem?_map] at e1
      obtain ⟨d, e2⟩ := there hi
      rw [e2] at e1
      cases e1
    · rw [List.getElem?_append_right (by simpa using hi), List.getElem?_replicate] at e1
      split at e1 <;> cases e1
/-- the context of a def's body -/
abbrev cx0 (P : Program) (w : World) (K : PySem.W.Frag) (mg : Str → Option Value) (base : Heap) (N : List Str) (x : Str) (st : Stmt) (f : Addr) (cdv : Value) (A : Around) (outer : List Env) (s : Shared) (H : Hp) (E : XK) : Cx :=
  (cxOf CX0 P w K mg base N x (defScope st) f cdv A outer s H E).nox
section
variable {P : Program} {w : World} {K : PySem.W.Frag} {mg : Str → Option Value} {base : Heap} {x : Str} {st : Stmt} {N ps : List Str} {k : Nat}
theorem Fn.mono {sp : Sp} {j : Nat} (F : Fn P w K mg base x ps j sp) (h : j ≤ k) : Fn P w K mg base x ps k sp := by
  obtain ⟨f, fd, a, b, c, d⟩ := F.ex
  exact ⟨f, fd, a, b, c, d.mono h⟩
theorem Fn.ofD {R : List PyData → PyData → Prop} (F : Df K mg x st) (S : FnScope N ps (defScope st)) (hb : ∀ (kV doc pm : Value) (an : Option Addr) (cdv ct : Value) (us : List Value), us.length = ps.length → bindArgs (PySem.W.fnOf x x (defArgs st) (defBody st) (defScope st) .none kV doc pm an cdv ct) ⟨us, []⟩ = pure (ps.zip us))
    (len : ∀ ds d, R ds d → ds.length = ps.length)
    (body : ∀ f cdv A outer s H E ds d, Room k (A.deeper (envOfC x (defScope st) s.heap.objs.size f cdv)) → R ds d →
      SS (cx0 P w K mg base N x st f cdv A outer s H E) H (init N ds) (defBody st) { nx := fun _ => d = .none, rt := fun d' => d' = d }) : Fn P w K mg base x ps (k + 1) (spD K R) := by
  obtain ⟨f, fd, hm, F⟩ := F.ex
  refine ⟨f, fd, hm, F.kp, F.binds hb, F.ok S (fun vs H Q E h => ?_) (fun cdv A outer s H vs Q E hr h => ?_)⟩
  · obtain ⟨ds, d, h1, h2, _⟩ := h
    rw [dpAll_len h1]; exact len ds d h2
  · obtain ⟨ds, d, h1, h2, q⟩ := h
    refine ⟨_, c_ss, body f cdv A outer s H E ds d hr h2 (start N vs) H (env_init h1) _ ⟨fun σ H' δ _ E' z => ?_, fun v H' d' s' hd z => ?_, fun p ws H' es _ _ _ _ z => z.elim, fun _ _ _ _ _ z => z.elim, fun _ _ _ _ _ z => z.elim⟩⟩
    · exact q _ _ E'.ex (by rw [show d = .none from z]; exact .non)
    · exact q v H' s' (by rw [← show d' = d from z]; exact hd)
theorem Fn.ofL {R : List PyData → List PyData → Prop} (F : Df K mg x st) (S : FnScope N ps (defScope st)) (hb : ∀ (kV doc pm : Value) (an : Option Addr) (cdv ct : Value) (us : List Value), us.length = ps.length → bindArgs (PySem.W.fnOf x x (defArgs st) (defBody st) (defScope st) .none kV doc pm an cdv ct) ⟨us, []⟩ = pure (ps.zip us))
    (len : ∀ ds d, R ds d → ds.length = ps.length)
    (body : ∀ f cdv A outer s H E ds es, Room k (A.deeper (envOfC x (defScope st) s.heap.objs.size f cdv)) → R ds es →
      SS (cx0 P w K mg base N x st f cdv A outer s H E) H (init N ds) (defBody st) { nx := fun _ => False, rl := fun es' => es' = es }) : Fn P w K mg base x ps (k + 1) (spL K R) := by
  obtain ⟨f, fd, hm, F⟩ := F.ex
  refine ⟨f, fd, hm, F.kp, F.binds hb, F.ok S (fun vs H Q E h => ?_) (fun cdv A outer s H vs Q E hr h => ?_)⟩
  · obtain ⟨ds, d, h1, h2, _⟩ := h
    rw [dpAll_len h1]; exact len ds d h2
  · obtain ⟨ds, es, h1, h2, q⟩ := h
    refine ⟨_, c_ss, body f cdv A outer s H E ds es hr h2 (start N vs) H (env_init h1) _ ⟨fun σ H' δ _ E' z => z.elim, fun v H' d' s' hd z => z.elim, fun p ws H' es' s0 h0 h1 h2 z => ?_, fun _ _ _ _ _ z => z.elim, fun _ _ _ _ _ z => z.elim⟩⟩
    exact q p ws H' s0 h0 h1 (by rw [← show es' = es from z]; exact h2)
end
section
variable {X : Cx} {H0 : Hp} {δ : List Sl} {e : Expr} {es : List Expr} {pos p : Pos} {d : PyData} {ds : List PyData} {x : Str} {ps : List Str} {k : Nat}
theorem ev_call {R : List PyData → PyData → Prop} (F : Fn X.prog X.w X.K X.mg X.base x ps k (spD X.K R)) (hr : Room k X.A) (ha : EA X H0 δ (e :: es) ds) (hR : R ds d) (hg : Gl X x := by rfl) (hdb : (x == ("__debug__" : Str)) = false := by decide)
    (he : starEach (e :: es) X.env = (false, eval e X.env) :: starEach es X.env := by rfl) (hpl : (backTo pos (starEach es X.env)).any (·.1) = false := by rfl) : EV X H0 δ (.Call (.Name x p) (e :: es) [] pos) d := fun σ H E Q q => by
  obtain ⟨f, fd, hm, hk, hb, F⟩ := F.ex
  exact e_of (pe_call (CX := CX0) (E := E0) F hr hg hm hk hb .nil pass0 c_a hdb he hpl) (ha σ H E _ fun vs H1 s1 h1 => ⟨ds, d, by rw [List.append_nil]; exact h1, hR, fun v H2 s2 h2 => q v H2 (s1.trans s2) h2⟩)
theorem el_call {R : List PyData → List PyData → Prop} {rs : List PyData} (F : Fn X.prog X.w X.K X.mg X.base x ps k (spL X.K R)) (hr : Room k X.A) (ha : EA X H0 δ (e :: es) ds) (hR : R ds rs) (hg : Gl X x := by rfl) (hdb : (x == ("__debug__" : Str)) = false := by decide)
    (he : starEach (e :: es) X.env = (false, eval e X.env) :: starEach es X.env := by rfl) (hpl : (backTo pos (starEach es X.env)).any (·.1) = false := by rfl) : EL X H0 δ (.Call (.Name x p) (e :: es) [] pos) rs := fun σ H E Q q => by
  obtain ⟨f, fd, hm, hk, hb, F⟩ := F.ex
  exact e_of (pe_call (CX := CX0) (E := E0) F hr hg hm hk hb .nil pass0 c_a hdb he hpl) (ha σ H E _ fun vs H1 s1 h1 => ⟨ds, rs, by rw [List.append_nil]; exact h1, hR, fun p ws H2 s2 hp h2 h3 => q p ws H2 (s1.trans s2) (s1.free hp) h2 h3⟩)
end
end RS

set_option Elab.async false
set_option linter.all false
set_option maxRecDepth 100000
set_option maxHeartbeats 4000000
/-! The text by places (printed by gen_sc.py). -/
namespace RS
open PySem PySem.Spec PyProof.Rows L2
def top (i : Nat) : Stmt := PySem.Challenge.pw_rungshare_k06_whole_shares_and_errors.main.body.getD i (.Pass ⟨0, 0, 0, 0⟩)
abbrev s_is_integer : Stmt := top 17
abbrev N_is_integer : List Str := ["thing"]
theorem sc_is_integer : FnScope N_is_integer ["thing"] (defScope s_is_integer) := ⟨rfl, rfl, rfl, by decide +kernel, rfl, by decide +kernel, by decide +kernel⟩
theorem bd_is_integer : ∀ (kV doc pm : Value) (an : Option Addr) (cdv ct : Value) (us : List Value), us.length = (["thing"] : List Str).length → bindArgs (PySem.W.fnOf "is_integer" "is_integer" (defArgs s_is_integer) (defBody s_is_integer) (defScope s_is_integer) .none kV doc pm an cdv ct) ⟨us, []⟩ = pure ((["thing"] : List Str).zip us) := fun _ _ _ _ _ _ us hl => match us, hl with | [_], _ => rfl
abbrev s_common : Stmt := top 18
abbrev N_common : List Str := ["one", "other"]
theorem sc_common : FnScope N_common ["one", "other"] (defScope s_common) := ⟨rfl, rfl, rfl, by decide +kernel, rfl, by decide +kernel, by decide +kernel⟩
theorem bd_common : ∀ (kV doc pm : Value) (an : Option Addr) (cdv ct : Value) (us : List Value), us.length = (["one", "other"] : List Str).length → bindArgs (PySem.W.fnOf "common" "common" (defArgs s_common) (defBody s_common) (defScope s_common) .none kV doc pm an cdv ct) ⟨us, []⟩ = pure ((["one", "other"] : List Str).zip us) := fun _ _ _ _ _ _ us hl => match us, hl with | [_, _], _ => rfl
abbrev s_made : Stmt := top 19
abbrev N_made : List Str := ["top", "bottom", "divisor"]
theorem sc_made : FnScope N_made ["top", "bottom"] (defScope s_made) := ⟨rfl, rfl, rfl, by decide +kernel, rfl, by decide +kernel, by decide +kernel⟩
theorem bd_made : ∀ (kV doc pm : Value) (an : Option Addr) (cdv ct : Value) (us : List Value), us.length = (["top", "bottom"] : List Str).length → bindArgs (PySem.W.fnOf "made" "made" (defArgs s_made) (defBody s_made) (defScope s_made) .none kV doc pm an cdv ct) ⟨us, []⟩ = pure ((["top", "bottom"] : List Str).zip us) := fun _ _ _ _ _ _ us hl => match us, hl with | [_, _], _ => rfl
abbrev s_is_fraction : Stmt := top 20
abbrev N_is_fraction : List Str := ["thing", "one"]
theorem sc_is_fraction : FnScope N_is_fraction ["thing"] (defScope s_is_fraction) := ⟨rfl, rfl, rfl, by decide +kernel, rfl, by decide +kernel, by decide +kernel⟩
theorem bd_is_fraction : ∀ (kV doc pm : Value) (an : Option Addr) (cdv ct : Value) (us : List Value), us.length = (["thing"] : List Str).length → bindArgs (PySem.W.fnOf "is_fraction" "is_fraction" (defArgs s_is_fraction) (defBody s_is_fraction) (defScope s_is_fraction) .none kV doc pm an cdv ct) ⟨us, []⟩ = pure ((["thing"] : List Str).zip us) := fun _ _ _ _ _ _ us hl => match us, hl with | [_], _ => rfl
abbrev s_whole : Stmt := top 21
abbrev N_whole : List Str := ["number"]
theorem sc_whole : FnScope N_whole ["number"] (defScope s_whole) := ⟨rfl, rfl, rfl, by decide +kernel, rfl, by decide +kernel, by decide +kernel⟩
theorem bd_whole : ∀ (kV doc pm : Value) (an : Option Addr) (cdv ct : Value) (us : List Value), us.length = (["number"] : List Str).length → bindArgs (PySem.W.fnOf "whole" "whole" (defArgs s_whole) (defBody s_whole) (defScope s_whole) .none kV doc pm an cdv ct) ⟨us, []⟩ = pure ((["number"] : List Str).zip us) := fun _ _ _ _ _ _ us hl => match us, hl with | [_], _ => rfl
abbrev s_add : Stmt := top 22
abbrev N_add : List Str := ["one", "other"]
theorem sc_add : FnScope N_add ["one", "other"] (defScope s_add) := ⟨rfl, rfl, rfl, by decide +kernel, rfl, by decide +kernel, by decide +kernel⟩
theorem bd_add : ∀ (kV doc pm : Value) (an : Option Addr) (cdv ct : Value) (us : List Value), us.length = (["one", "other"] : List Str).length → bindArgs (PySem.W.fnOf "add" "add" (defArgs s_add) (defBody s_add) (defScope s_add) .none kV doc pm an cdv ct) ⟨us, []⟩ = pure ((["one", "other"] : List Str).zip us) := fun _ _ _ _ _ _ us hl => match us, hl with | [_, _], _ => rfl
abbrev s_sub : Stmt := top 23
abbrev N_sub : List Str := ["one", "other"]
theorem sc_sub : FnScope N_sub ["one", "other"] (defScope s_sub) := ⟨rfl, rfl, rfl, by decide +kernel, rfl, by decide +kernel, by decide +kernel⟩
theorem bd_sub : ∀ (kV doc pm : Value) (an : Option Addr) (cdv ct : Value) (us : List Value), us.length = (["one", "other"] : List Str).length → bindArgs (PySem.W.fnOf "sub" "sub" (defArgs s_sub) (defBody s_sub) (defScope s_sub) .none kV doc pm an cdv ct) ⟨us, []⟩ = pure ((["one", "other"] : List Str).zip us) := fun _ _ _ _ _ _ us hl => match us, hl with | [_, _], _ => rfl
abbrev s_mul : Stmt := top 24
abbrev N_mul : List Str := ["one", "other"]
theorem sc_mul : FnScope N_mul ["one", "other"] (defScope s_mul) := ⟨rfl, rfl, rfl, by decide +kernel, rfl, by decide +kernel, by decide +kernel⟩
theorem bd_mul : ∀ (kV doc pm : Value) (an : Option Addr) (cdv ct : Value) (us : List Value), us.length = (["one", "other"] : List Str).length → bindArgs (PySem.W.fnOf "mul" "mul" (defArgs s_mul) (defBody s_mul) (defScope s_mul) .none kV doc pm an cdv ct) ⟨us, []⟩ = pure ((["one", "other"] : List Str).zip us) := fun _ _ _ _ _ _ us hl => match us, hl with | [_, _], _ => rfl
abbrev s_div : Stmt := top 25
abbrev N_div : List Str := ["one", "other"]
theorem sc_div : FnScope N_div ["one", "other"] (defScope s_div) := ⟨rfl, rfl, rfl, by decide +kernel, rfl, by decide +kernel, by decide +kernel⟩
theorem bd_div : ∀ (kV doc pm : Value) (an : Option Addr) (cdv ct : Value) (us : List Value), us.length = (["one", "other"] : List Str).length → bindArgs (PySem.W.fnOf "div" "div" (defArgs s_div) (defBody s_div) (defScope s_div) .none kV doc pm an cdv ct) ⟨us, []⟩ = pure ((["one", "other"] : List Str).zip us) := fun _ _ _ _ _ _ us hl => match us, hl with | [_, _], _ => rfl
abbrev s_is_under : Stmt := top 26
abbrev N_is_under : List Str := ["one", "other"]
theorem sc_is_under : FnScope N_is_under ["one", "other"] (defScope s_is_under) := ⟨rfl, rfl, rfl, by decide +kernel, rfl, by decide +kernel, by decide +kernel⟩
theorem bd_is_under : ∀ (kV doc pm : Value) (an : Option Addr) (cdv ct : Value) (us : List Value), us.length = (["one", "other"] : List Str).length → bindArgs (PySem.W.fnOf "is_under" "is_under" (defArgs s_is_under) (defBody s_is_under) (defScope s_is_under) .none kV doc pm an cdv ct) ⟨us, []⟩ = pure ((["one", "other"] : List Str).zip us) := fun _ _ _ _ _ _ us hl => match us, hl with | [_, _], _ => rfl
abbrev s_sum_in : Stmt := top 27
abbrev N_sum_in : List Str := ["some", "found", "one"]
theorem sc_sum_in : FnScope N_sum_in ["some"] (defScope s_sum_in) := ⟨rfl, rfl, rfl, by decide +kernel, rfl, by decide +kernel, by decide +kernel⟩
theorem bd_sum_in : ∀ (kV doc pm : Value) (an : Option Addr) (cdv ct : Value) (us : List Value), us.length = (["some"] : List Str).length → bindArgs (PySem.W.fnOf "sum_in" "sum_in" (defArgs s_sum_in) (defBody s_sum_in) (defScope s_sum_in) .none kV doc pm an cdv ct) ⟨us, []⟩ = pure ((["some"] : List Str).zip us) := fun _ _ _ _ _ _ us hl => match us, hl with | [_], _ => rfl
abbrev s_need_fraction : Stmt := top 28
abbrev N_need_fraction : List Str := ["thing"]
theorem sc_need_fraction : FnScope N_need_fraction ["thing"] (defScope s_need_fraction) := ⟨rfl, rfl, rfl, by decide +kernel, rfl, by decide +kernel, by decide +kernel⟩
theorem bd_need_fraction : ∀ (kV doc pm : Value) (an : Option Addr) (cdv ct : Value) (us : List Value), us.length = (["thing"] : List Str).length → bindArgs (PySem.W.fnOf "need_fraction" "need_fraction" (defArgs s_need_fraction) (defBody s_need_fraction) (defScope s_need_fraction) .none kV doc pm an cdv ct) ⟨us, []⟩ = pure ((["thing"] : List Str).zip us) := fun _ _ _ _ _ _ us hl => match us, hl with | [_], _ => rfl
abbrev s_power_in : Stmt := top 29
abbrev N_power_in : List Str := ["one", "number", "found", "turn"]
theorem sc_power_in : FnScope N_power_in ["one", "number"] (defScope s_power_in) := ⟨rfl, rfl, rfl, by decide +kernel, rfl, by decide +kernel, by decide +kernel⟩
theorem bd_power_in : ∀ (kV doc pm : Value) (an : Option Addr) (cdv ct : Value) (us : List Value), us.length = (["one", "number"] : List Str).length → bindArgs (PySem.W.fnOf "power_in" "power_in" (defArgs s_power_in) (defBody s_power_in) (defScope s_power_in) .none kV doc pm an cdv ct) ⟨us, []⟩ = pure ((["one", "number"] : List Str).zip us) := fun _ _ _ _ _ _ us hl => match us, hl with | [_, _], _ => rfl
abbrev s_are_fractions : Stmt := top 32
abbrev N_are_fractions : List Str := ["thing", "most", "one"]
theorem sc_are_fractions : FnScope N_are_fractions ["thing", "most"] (defScope s_are_fractions) := ⟨rfl, rfl, rfl, by decide +kernel, rfl, by decide +kernel, by decide +kernel⟩
theorem bd_are_fractions : ∀ (kV doc pm : Value) (an : Option Addr) (cdv ct : Value) (us : List Value), us.length = (["thing", "most"] : List Str).length → bindArgs (PySem.W.fnOf "are_fractions" "are_fractions" (defArgs s_are_fractions) (defBody s_are_fractions) (defScope s_are_fractions) .none kV doc pm an cdv ct) ⟨us, []⟩ = pure ((["thing", "most"] : List Str).zip us) := fun _ _ _ _ _ _ us hl => match us, hl with | [_, _], _ => rfl
abbrev s_is_poly : Stmt := top 33
abbrev N_is_poly : List Str := ["thing"]
theorem sc_is_poly : FnScope N_is_poly ["thing"] (defScope s_is_poly) := ⟨rfl, rfl, rfl, by decide +kernel, rfl, by decide +kernel, by decide +kernel⟩
theorem bd_is_poly : ∀ (kV doc pm : Value) (an : Option Addr) (cdv ct : Value) (us : List Value), us.length = (["thing"] : List Str).length → bindArgs (PySem.W.fnOf "is_poly" "is_poly" (defArgs s_is_poly) (defBody s_is_poly) (defScope s_is_poly) .none kV doc pm an cdv ct) ⟨us, []⟩ = pure ((["thing"] : List Str).zip us) := fun _ _ _ _ _ _ us hl => match us, hl with | [_], _ => rfl
abbrev s_need_poly : Stmt := top 34
abbrev N_need_poly : List Str := ["thing"]
theorem sc_need_poly : FnScope N_need_poly ["thing"] (defScope s_need_poly) := ⟨rfl, rfl, rfl, by decide +kernel, rfl, by decide +kernel, by decide +kernel⟩
theorem bd_need_poly : ∀ (kV doc pm : Value) (an : Option Addr) (cdv ct : Value) (us : List Value), us.length = (["thing"] : List Str).length → bindArgs (PySem.W.fnOf "need_poly" "need_poly" (defArgs s_need_poly) (defBody s_need_poly) (defScope s_need_poly) .none kV doc pm an cdv ct) ⟨us, []⟩ = pure ((["thing"] : List Str).zip us) := fun _ _ _ _ _ _ us hl => match us, hl with | [_], _ => rfl
abbrev s_trimmed : Stmt := top 35
abbrev N_trimmed : List Str := ["some", "many"]
theorem sc_trimmed : FnScope N_trimmed ["some"] (defScope s_trimmed) := ⟨rfl, rfl, rfl, by decide +kernel, rfl, by decide +kernel, by decide +kernel⟩
theorem bd_trimmed : ∀ (kV doc pm : Value) (an : Option Addr) (cdv ct : Value) (us : List Value), us.length = (["some"] : List Str).length → bindArgs (PySem.W.fnOf "trimmed" "trimmed" (defArgs s_trimmed) (defBody s_trimmed) (defScope s_trimmed) .none kV doc pm an cdv ct) ⟨us, []⟩ = pure ((["some"] : List Str).zip us) := fun _ _ _ _ _ _ us hl => match us, hl with | [_], _ => rfl
abbrev s_part_of : Stmt := top 36
abbrev N_part_of : List Str := ["poly", "number"]
theorem sc_part_of : FnScope N_part_of ["poly", "number"] (defScope s_part_of) := ⟨rfl, rfl, rfl, by decide +kernel, rfl, by decide +kernel, by decide +kernel⟩
theorem bd_part_of : ∀ (kV doc pm : Value) (an : Option Addr) (cdv ct : Value) (us : List Value), us.length = (["poly", "number"] : List Str).length → bindArgs (PySem.W.fnOf "part_of" "part_of" (defArgs s_part_of) (defBody s_part_of) (defScope s_part_of) .none kV doc pm an cdv ct) ⟨us, []⟩ = pure ((["poly", "number"] : List Str).zip us) := fun _ _ _ _ _ _ us hl => match us, hl with | [_, _], _ => rfl
abbrev s_sum_of : Stmt := top 37
abbrev N_sum_of : List Str := ["one", "other", "spot"]
theorem sc_sum_of : FnScope N_sum_of ["one", "other"] (defScope s_sum_of) := ⟨rfl, rfl, rfl, by decide +kernel, rfl, by decide +kernel, by decide +kernel⟩
theorem bd_sum_of : ∀ (kV doc pm : Value) (an : Option Addr) (cdv ct : Value) (us : List Value), us.length = (["one", "other"] : List Str).length → bindArgs (PySem.W.fnOf "sum_of" "sum_of" (defArgs s_sum_of) (defBody s_sum_of) (defScope s_sum_of) .none kV doc pm an cdv ct) ⟨us, []⟩ = pure ((["one", "other"] : List Str).zip us) := fun _ _ _ _ _ _ us hl => match us, hl with | [_, _], _ => rfl
abbrev s_less_of : Stmt := top 38
abbrev N_less_of : List Str := ["one", "other", "spot"]
theorem sc_less_of : FnScope N_less_of ["one", "other"] (defScope s_less_of) := ⟨rfl, rfl, rfl, by decide +kernel, rfl, by decide +kernel, by decide +kernel⟩
theorem bd_less_of : ∀ (kV doc pm : Value) (an : Option Addr) (cdv ct : Value) (us : List Value), us.length = (["one", "other"] : List Str).length → bindArgs (PySem.W.fnOf "less_of" "less_of" (defArgs s_less_of) (defBody s_less_of) (defScope s_less_of) .none kV doc pm an cdv ct) ⟨us, []⟩ = pure ((["one", "other"] : List Str).zip us) := fun _ _ _ _ _ _ us hl => match us, hl with | [_, _], _ => rfl
abbrev s_times_of : Stmt := top 39
abbrev N_times_of : List Str := ["poly", "number", "one"]
theorem sc_times_of : FnScope N_times_of ["poly", "number"] (defScope s_times_of) := ⟨rfl, rfl, rfl, by decide +kernel, rfl, by decide +kernel, by decide +kernel⟩
theorem bd_times_of : ∀ (kV doc pm : Value) (an : Option Addr) (cdv ct : Value) (us : List Value), us.length = (["poly", "number"] : List Str).length → bindArgs (PySem.W.fnOf "times_of" "times_of" (defArgs s_times_of) (defBody s_times_of) (defScope s_times_of) .none kV doc pm an cdv ct) ⟨us, []⟩ = pure ((["poly", "number"] : List Str).zip us) := fun _ _ _ _ _ _ us hl => match us, hl with | [_, _], _ => rfl
abbrev s_raised_of : Stmt := top 40
abbrev N_raised_of : List Str := ["poly", "number"]
theorem sc_raised_of : FnScope N_raised_of ["poly", "number"] (defScope s_raised_of) := ⟨rfl, rfl, rfl, by decide +kernel, rfl, by decide +kernel, by decide +kernel⟩
theorem bd_raised_of : ∀ (kV doc pm : Value) (an : Option Addr) (cdv ct : Value) (us : List Value), us.length = (["poly", "number"] : List Str).length → bindArgs (PySem.W.fnOf "raised_of" "raised_of" (defArgs s_raised_of) (defBody s_raised_of) (defScope s_raised_of) .none kV doc pm an cdv ct) ⟨us, []⟩ = pure ((["poly", "number"] : List Str).zip us) := fun _ _ _ _ _ _ us hl => match us, hl with | [_, _], _ => rfl
abbrev s_product_of : Stmt := top 41
abbrev N_product_of : List Str := ["one", "other", "found", "spot", "part"]
theorem sc_product_of : FnScope N_product_of ["one", "other"] (defScope s_product_of) := ⟨rfl, rfl, rfl, by decide +kernel, rfl, by decide +kernel, by decide +kernel⟩
theorem bd_product_of : ∀ (kV doc pm : Value) (an : Option Addr) (cdv ct : Value) (us : List Value), us.length = (["one", "other"] : List Str).length → bindArgs (PySem.W.fnOf "product_of" "product_of" (defArgs s_product_of) (defBody s_product_of) (defScope s_product_of) .none kV doc pm an cdv ct) ⟨us, []⟩ = pure ((["one", "other"] : List Str).zip us) := fun _ _ _ _ _ _ us hl => match us, hl with | [_, _], _ => rfl
abbrev s_worth_of : Stmt := top 42
abbrev N_worth_of : List Str := ["poly", "mark", "found", "part"]
theorem sc_worth_of : FnScope N_worth_of ["poly", "mark"] (defScope s_worth_of) := ⟨rfl, rfl, rfl, by decide +kernel, rfl, by decide +kernel, by decide +kernel⟩
theorem bd_worth_of : ∀ (kV doc pm : Value) (an : Option Addr) (cdv ct : Value) (us : List Value), us.length = (["poly", "mark"] : List Str).length → bindArgs (PySem.W.fnOf "worth_of" "worth_of" (defArgs s_worth_of) (defBody s_worth_of) (defScope s_worth_of) .none kV doc pm an cdv ct) ⟨us, []⟩ = pure ((["poly", "mark"] : List Str).zip us) := fun _ _ _ _ _ _ us hl => match us, hl with | [_, _], _ => rfl
abbrev s_worth_at : Stmt := top 43
abbrev N_worth_at : List Str := ["poly", "mark"]
theorem sc_worth_at : FnScope N_worth_at ["poly", "mark"] (defScope s_worth_at) := ⟨rfl, rfl, rfl, by decide +kernel, rfl, by decide +kernel, by decide +kernel⟩
theorem bd_worth_at : ∀ (kV doc pm : Value) (an : Option Addr) (cdv ct : Value) (us : List Value), us.length = (["poly", "mark"] : List Str).length → bindArgs (PySem.W.fnOf "worth_at" "worth_at" (defArgs s_worth_at) (defBody s_worth_at) (defScope s_worth_at) .none kV doc pm an cdv ct) ⟨us, []⟩ = pure ((["poly", "mark"] : List Str).zip us) := fun _ _ _ _ _ _ us hl => match us, hl with | [_, _], _ => rfl
abbrev s_is_row : Stmt := top 47
abbrev N_is_row : List Str := ["thing"]
theorem sc_is_row : FnScope N_is_row ["thing"] (defScope s_is_row) := ⟨rfl, rfl, rfl, by decide +kernel, rfl, by decide +kernel, by decide +kernel⟩
theorem bd_is_row : ∀ (kV doc pm : Value) (an : Option Addr) (cdv ct : Value) (us : List Value), us.length = (["thing"] : List Str).length → bindArgs (PySem.W.fnOf "is_row" "is_row" (defArgs s_is_row) (defBody s_is_row) (defScope s_is_row) .none kV doc pm an cdv ct) ⟨us, []⟩ = pure ((["thing"] : List Str).zip us) := fun _ _ _ _ _ _ us hl => match us, hl with | [_], _ => rfl
abbrev s_need_row : Stmt := top 48
abbrev N_need_row : List Str := ["thing"]
theorem sc_need_row : FnScope N_need_row ["thing"] (defScope s_need_row) := ⟨rfl, rfl, rfl, by decide +kernel, rfl, by decide +kernel, by decide +kernel⟩
theorem bd_need_row : ∀ (kV doc pm : Value) (an : Option Addr) (cdv ct : Value) (us : List Value), us.length = (["thing"] : List Str).length → bindArgs (PySem.W.fnOf "need_row" "need_row" (defArgs s_need_row) (defBody s_need_row) (defScope s_need_row) .none kV doc pm an cdv ct) ⟨us, []⟩ = pure ((["thing"] : List Str).zip us) := fun _ _ _ _ _ _ us hl => match us, hl with | [_], _ => rfl
abbrev s_is_pair : Stmt := top 49
abbrev N_is_pair : List Str := ["thing", "one"]
theorem sc_is_pair : FnScope N_is_pair ["thing"] (defScope s_is_pair) := ⟨rfl, rfl, rfl, by decide +kernel, rfl, by decide +kernel, by decide +kernel⟩
theorem bd_is_pair : ∀ (kV doc pm : Value) (an : Option Addr) (cdv ct : Value) (us : List Value), us.length = (["thing"] : List Str).length → bindArgs (PySem.W.fnOf "is_pair" "is_pair" (defArgs s_is_pair) (defBody s_is_pair) (defScope s_is_pair) .none kV doc pm an cdv ct) ⟨us, []⟩ = pure ((["thing"] : List Str).zip us) := fun _ _ _ _ _ _ us hl => match us, hl with | [_], _ => rfl
abbrev s_are_pairs : Stmt := top 50
abbrev N_are_pairs : List Str := ["thing", "most", "one", "near", "far", "number", "weight"]
theorem sc_are_pairs : FnScope N_are_pairs ["thing", "most"] (defScope s_are_pairs) := ⟨rfl, rfl, rfl, by decide +kernel, rfl, by decide +kernel, by decide +kernel⟩
theorem bd_are_pairs : ∀ (kV doc pm : Value) (an : Option Addr) (cdv ct : Value) (us : List Value), us.length = (["thing", "most"] : List Str).length → bindArgs (PySem.W.fnOf "are_pairs" "are_pairs" (defArgs s_are_pairs) (defBody s_are_pairs) (defScope s_are_pairs) .none kV doc pm an cdv ct) ⟨us, []⟩ = pure ((["thing", "most"] : List Str).zip us) := fun _ _ _ _ _ _ us hl => match us, hl with | [_, _], _ => rfl
abbrev s_is_share : Stmt := top 51
abbrev N_is_share : List Str := ["thing"]
theorem sc_is_share : FnScope N_is_share ["thing"] (defScope s_is_share) := ⟨rfl, rfl, rfl, by decide +kernel, rfl, by decide +kernel, by decide +kernel⟩
theorem bd_is_share : ∀ (kV doc pm : Value) (an : Option Addr) (cdv ct : Value) (us : List Value), us.length = (["thing"] : List Str).length → bindArgs (PySem.W.fnOf "is_share" "is_share" (defArgs s_is_share) (defBody s_is_share) (defScope s_is_share) .none kV doc pm an cdv ct) ⟨us, []⟩ = pure ((["thing"] : List Str).zip us) := fun _ _ _ _ _ _ us hl => match us, hl with | [_], _ => rfl
abbrev s_need_share : Stmt := top 52
abbrev N_need_share : List Str := ["thing"]
theorem sc_need_share : FnScope N_need_share ["thing"] (defScope s_need_share) := ⟨rfl, rfl, rfl, by decide +kernel, rfl, by decide +kernel, by decide +kernel⟩
theorem bd_need_share : ∀ (kV doc pm : Value) (an : Option Addr) (cdv ct : Value) (us : List Value), us.length = (["thing"] : List Str).length → bindArgs (PySem.W.fnOf "need_share" "need_share" (defArgs s_need_share) (defBody s_need_share) (defScope s_need_share) .none kV doc pm an cdv ct) ⟨us, []⟩ = pure ((["thing"] : List Str).zip us) := fun _ _ _ _ _ _ us hl => match us, hl with | [_], _ => rfl
abbrev s_need_top : Stmt := top 53
abbrev N_need_top : List Str := ["top"]
theorem sc_need_top : FnScope N_need_top ["top"] (defScope s_need_top) := ⟨rfl, rfl, rfl, by decide +kernel, rfl, by decide +kernel, by decide +kernel⟩
theorem bd_need_top : ∀ (kV doc pm : Value) (an : Option Addr) (cdv ct : Value) (us : List Value), us.length = (["top"] : List Str).length → bindArgs (PySem.W.fnOf "need_top" "need_top" (defArgs s_need_top) (defBody s_need_top) (defScope s_need_top) .none kV doc pm an cdv ct) ⟨us, []⟩ = pure ((["top"] : List Str).zip us) := fun _ _ _ _ _ _ us hl => match us, hl with | [_], _ => rfl
abbrev s_moments_in : Stmt := top 54
abbrev N_moments_in : List Str := ["share", "top", "found", "spot", "number", "weight"]
theorem sc_moments_in : FnScope N_moments_in ["share", "top"] (defScope s_moments_in) := ⟨rfl, rfl, rfl, by decide +kernel, rfl, by decide +kernel, by decide +kernel⟩
theorem bd_moments_in : ∀ (kV doc pm : Value) (an : Option Addr) (cdv ct : Value) (us : List Value), us.length = (["share", "top"] : List Str).length → bindArgs (PySem.W.fnOf "moments_in" "moments_in" (defArgs s_moments_in) (defBody s_moments_in) (defScope s_moments_in) .none kV doc pm an cdv ct) ⟨us, []⟩ = pure ((["share", "top"] : List Str).zip us) := fun _ _ _ _ _ _ us hl => match us, hl with | [_, _], _ => rfl
abbrev s_moments : Stmt := top 55
abbrev N_moments : List Str := ["share", "top"]
theorem sc_moments : FnScope N_moments ["share", "top"] (defScope s_moments) := ⟨rfl, rfl, rfl, by decide +kernel, rfl, by decide +kernel, by decide +kernel⟩
theorem bd_moments : ∀ (kV doc pm : Value) (an : Option Addr) (cdv ct : Value) (us : List Value), us.length = (["share", "top"] : List Str).length → bindArgs (PySem.W.fnOf "moments" "moments" (defArgs s_moments) (defBody s_moments) (defScope s_moments) .none kV doc pm an cdv ct) ⟨us, []⟩ = pure ((["share", "top"] : List Str).zip us) := fun _ _ _ _ _ _ us hl => match us, hl with | [_, _], _ => rfl
abbrev s_sum_for : Stmt := top 56
abbrev N_sum_for : List Str := ["row", "poly", "part", "moment"]
theorem sc_sum_for : FnScope N_sum_for ["row", "poly"] (defScope s_sum_for) := ⟨rfl, rfl, rfl, by decide +kernel, rfl, by decide +kernel, by decide +kernel⟩
theorem bd_sum_for : ∀ (kV doc pm : Value) (an : Option Addr) (cdv ct : Value) (us : List Value), us.length = (["row", "poly"] : List Str).length → bindArgs (PySem.W.fnOf "sum_for" "sum_for" (defArgs s_sum_for) (defBody s_sum_for) (defScope s_sum_for) .none kV doc pm an cdv ct) ⟨us, []⟩ = pure ((["row", "poly"] : List Str).zip us) := fun _ _ _ _ _ _ us hl => match us, hl with | [_, _], _ => rfl
abbrev s_is_form : Stmt := top 61
abbrev N_is_form : List Str := ["thing"]
theorem sc_is_form : FnScope N_is_form ["thing"] (defScope s_is_form) := ⟨rfl, rfl, rfl, by decide +kernel, rfl, by decide +kernel, by decide +kernel⟩
theorem bd_is_form : ∀ (kV doc pm : Value) (an : Option Addr) (cdv ct : Value) (us : List Value), us.length = (["thing"] : List Str).length → bindArgs (PySem.W.fnOf "is_form" "is_form" (defArgs s_is_form) (defBody s_is_form) (defScope s_is_form) .none kV doc pm an cdv ct) ⟨us, []⟩ = pure ((["thing"] : List Str).zip us) := fun _ _ _ _ _ _ us hl => match us, hl with | [_], _ => rfl
abbrev s_is_ended_in : Stmt := top 62
abbrev N_is_ended_in : List Str := ["ladder"]
theorem sc_is_ended_in : FnScope N_is_ended_in ["ladder"] (defScope s_is_ended_in) := ⟨rfl, rfl, rfl, by decide +kernel, rfl, by decide +kernel, by decide +kernel⟩
theorem bd_is_ended_in : ∀ (kV doc pm : Value) (an : Option Addr) (cdv ct : Value) (us : List Value), us.length = (["ladder"] : List Str).length → bindArgs (PySem.W.fnOf "is_ended_in" "is_ended_in" (defArgs s_is_ended_in) (defBody s_is_ended_in) (defScope s_is_ended_in) .none kV doc pm an cdv ct) ⟨us, []⟩ = pure ((["ladder"] : List Str).zip us) := fun _ _ _ _ _ _ us hl => match us, hl with | [_], _ => rfl
abbrev s_is_ladder : Stmt := top 63
abbrev N_is_ladder : List Str := ["thing", "total", "levels", "steps", "one"]
theorem sc_is_ladder : FnScope N_is_ladder ["thing"] (defScope s_is_ladder) := ⟨rfl, rfl, rfl, by decide +kernel, rfl, by decide +kernel, by decide +kernel⟩
theorem bd_is_ladder : ∀ (kV doc pm : Value) (an : Option Addr) (cdv ct : Value) (us : List Value), us.length = (["thing"] : List Str).length → bindArgs (PySem.W.fnOf "is_ladder" "is_ladder" (defArgs s_is_ladder) (defBody s_is_ladder) (defScope s_is_ladder) .none kV doc pm an cdv ct) ⟨us, []⟩ = pure ((["thing"] : List Str).zip us) := fun _ _ _ _ _ _ us hl => match us, hl with | [_], _ => rfl
abbrev s_need_ladder : Stmt := top 64
abbrev N_need_ladder : List Str := ["thing"]
theorem sc_need_ladder : FnScope N_need_ladder ["thing"] (defScope s_need_ladder) := ⟨rfl, rfl, rfl, by decide +kernel, rfl, by decide +kernel, by decide +kernel⟩
theorem bd_need_ladder : ∀ (kV doc pm : Value) (an : Option Addr) (cdv ct : Value) (us : List Value), us.length = (["thing"] : List Str).length → bindArgs (PySem.W.fnOf "need_ladder" "need_ladder" (defArgs s_need_ladder) (defBody s_need_ladder) (defScope s_need_ladder) .none kV doc pm an cdv ct) ⟨us, []⟩ = pure ((["thing"] : List Str).zip us) := fun _ _ _ _ _ _ us hl => match us, hl with | [_], _ => rfl
abbrev s_is_ended : Stmt := top 65
abbrev N_is_ended : List Str := ["ladder"]
theorem sc_is_ended : FnScope N_is_ended ["ladder"] (defScope s_is_ended) := ⟨rfl, rfl, rfl, by decide +kernel, rfl, by decide +kernel, by decide +kernel⟩
theorem bd_is_ended : ∀ (kV doc pm : Value) (an : Option Addr) (cdv ct : Value) (us : List Value), us.length = (["ladder"] : List Str).length → bindArgs (PySem.W.fnOf "is_ended" "is_ended" (defArgs s_is_ended) (defBody s_is_ended) (defScope s_is_ended) .none kV doc pm an cdv ct) ⟨us, []⟩ = pure ((["ladder"] : List Str).zip us) := fun _ _ _ _ _ _ us hl => match us, hl with | [_], _ => rfl
abbrev s_next_rung : Stmt := top 66
abbrev N_next_rung : List Str := ["poly", "before", "level", "step"]
theorem sc_next_rung : FnScope N_next_rung ["poly", "before", "level", "step"] (defScope s_next_rung) := ⟨rfl, rfl, rfl, by decide +kernel, rfl, by decide +kernel, by decide +kernel⟩
theorem bd_next_rung : ∀ (kV doc pm : Value) (an : Option Addr) (cdv ct : Value) (us : List Value), us.length = (["poly", "before", "level", "step"] : List Str).length → bindArgs (PySem.W.fnOf "next_rung" "next_rung" (defArgs s_next_rung) (defBody s_next_rung) (defScope s_next_rung) .none kV doc pm an cdv ct) ⟨us, []⟩ = pure ((["poly", "before", "level", "step"] : List Str).zip us) := fun _ _ _ _ _ _ us hl => match us, hl with | [_, _, _, _], _ => rfl
abbrev s_rungs_in : Stmt := top 67
abbrev N_rungs_in : List Str := ["ladder", "total", "levels", "steps", "found", "before", "spot", "level", "step"]
theorem sc_rungs_in : FnScope N_rungs_in ["ladder"] (defScope s_rungs_in) := ⟨rfl, rfl, rfl, by decide +kernel, rfl, by decide +kernel, by decide +kernel⟩
theorem bd_rungs_in : ∀ (kV doc pm : Value) (an : Option Addr) (cdv ct : Value) (us : List Value), us.length = (["ladder"] : List Str).length → bindArgs (PySem.W.fnOf "rungs_in" "rungs_in" (defArgs s_rungs_in) (defBody s_rungs_in) (defScope s_rungs_in) .none kV doc pm an cdv ct) ⟨us, []⟩ = pure ((["ladder"] : List Str).zip us) := fun _ _ _ _ _ _ us hl => match us, hl with | [_], _ => rfl
abbrev s_rung_polys : Stmt := top 68
abbrev N_rung_polys : List Str := ["ladder"]
theorem sc_rung_polys : FnScope N_rung_polys ["ladder"] (defScope s_rung_polys) := ⟨rfl, rfl, rfl, by decide +kernel, rfl, by decide +kernel, by decide +kernel⟩
theorem bd_rung_polys : ∀ (kV doc pm : Value) (an : Option Addr) (cdv ct : Value) (us : List Value), us.length = (["ladder"] : List Str).length → bindArgs (PySem.W.fnOf "rung_polys" "rung_polys" (defArgs s_rung_polys) (defBody s_rung_polys) (defScope s_rung_polys) .none kV doc pm an cdv ct) ⟨us, []⟩ = pure ((["ladder"] : List Str).zip us) := fun _ _ _ _ _ _ us hl => match us, hl with | [_], _ => rfl
abbrev s_stepped : Stmt := top 69
abbrev N_stepped : List Str := ["worths", "levels", "steps", "found", "height", "worth"]
theorem sc_stepped : FnScope N_stepped ["worths", "levels", "steps"] (defScope s_stepped) := ⟨rfl, rfl, rfl, by decide +kernel, rfl, by decide +kernel, by decide +kernel⟩
theorem bd_stepped : ∀ (kV doc pm : Value) (an : Option Addr) (cdv ct : Value) (us : List Value), us.length = (["worths", "levels", "steps"] : List Str).length → bindArgs (PySem.W.fnOf "stepped" "stepped" (defArgs s_stepped) (defBody s_stepped) (defScope s_stepped) .none kV doc pm an cdv ct) ⟨us, []⟩ = pure ((["worths", "levels", "steps"] : List Str).zip us) := fun _ _ _ _ _ _ us hl => match us, hl with | [_, _, _], _ => rfl
abbrev s_row_in : Stmt := top 70
abbrev N_row_in : List Str := ["ladder", "top", "total", "levels", "steps", "found", "worths", "spot"]
theorem sc_row_in : FnScope N_row_in ["ladder", "top"] (defScope s_row_in) := ⟨rfl, rfl, rfl, by decide +kernel, rfl, by decide +kernel, by decide +kernel⟩
theorem bd_row_in : ∀ (kV doc pm : Value) (an : Option Addr) (cdv ct : Value) (us : List Value), us.length = (["ladder", "top"] : List Str).length → bindArgs (PySem.W.fnOf "row_in" "row_in" (defArgs s_row_in) (defBody s_row_in) (defScope s_row_in) .none kV doc pm an cdv ct) ⟨us, []⟩ = pure ((["ladder", "top"] : List Str).zip us) := fun _ _ _ _ _ _ us hl => match us, hl with | [_, _], _ => rfl
abbrev s_row_of : Stmt := top 71
abbrev N_row_of : List Str := ["ladder", "top"]
theorem sc_row_of : FnScope N_row_of ["ladder", "top"] (defScope s_row_of) := ⟨rfl, rfl, rfl, by decide +kernel, rfl, by decide +kernel, by decide +kernel⟩
theorem bd_row_of : ∀ (kV doc pm : Value) (an : Option Addr) (cdv ct : Value) (us : List Value), us.length = (["ladder", "top"] : List Str).length → bindArgs (PySem.W.fnOf "row_of" "row_of" (defArgs s_row_of) (defBody s_row_of) (defScope s_row_of) .none kV doc pm an cdv ct) ⟨us, []⟩ = pure ((["ladder", "top"] : List Str).zip us) := fun _ _ _ _ _ _ us hl => match us, hl with | [_, _], _ => rfl
abbrev s_square_sum : Stmt := top 76
abbrev N_square_sum : List Str := ["row", "poly"]
theorem sc_square_sum : FnScope N_square_sum ["row", "poly"] (defScope s_square_sum) := ⟨rfl, rfl, rfl, by decide +kernel, rfl, by decide +kernel, by decide +kernel⟩
theorem bd_square_sum : ∀ (kV doc pm : Value) (an : Option Addr) (cdv ct : Value) (us : List Value), us.length = (["row", "poly"] : List Str).length → bindArgs (PySem.W.fnOf "square_sum" "square_sum" (defArgs s_square_sum) (defBody s_square_sum) (defScope s_square_sum) .none kV doc pm an cdv ct) ⟨us, []⟩ = pure ((["row", "poly"] : List Str).zip us) := fun _ _ _ _ _ _ us hl => match us, hl with | [_, _], _ => rfl
abbrev s_level_by : Stmt := top 77
abbrev N_level_by : List Str := ["row", "poly", "norm", "square"]
theorem sc_level_by : FnScope N_level_by ["row", "poly", "norm"] (defScope s_level_by) := ⟨rfl, rfl, rfl, by decide +kernel, rfl, by decide +kernel, by decide +kernel⟩
theorem bd_level_by : ∀ (kV doc pm : Value) (an : Option Addr) (cdv ct : Value) (us : List Value), us.length = (["row", "poly", "norm"] : List Str).length → bindArgs (PySem.W.fnOf "level_by" "level_by" (defArgs s_level_by) (defBody s_level_by) (defScope s_level_by) .none kV doc pm an cdv ct) ⟨us, []⟩ = pure ((["row", "poly", "norm"] : List Str).zip us) := fun _ _ _ _ _ _ us hl => match us, hl with | [_, _, _], _ => rfl
abbrev s_built : Stmt := top 78
abbrev N_built : List Str := ["row", "polys", "found", "levels", "before", "level", "step", "later"]
theorem sc_built : FnScope N_built ["row"] (defScope s_built) := ⟨rfl, rfl, rfl, by decide +kernel, rfl, by decide +kernel, by decide +kernel⟩
theorem bd_built : ∀ (kV doc pm : Value) (an : Option Addr) (cdv ct : Value) (us : List Value), us.length = (["row"] : List Str).length → bindArgs (PySem.W.fnOf "built" "built" (defArgs s_built) (defBody s_built) (defScope s_built) .none kV doc pm an cdv ct) ⟨us, []⟩ = pure ((["row"] : List Str).zip us) := fun _ _ _ _ _ _ us hl => match us, hl with | [_], _ => rfl
abbrev s_misfits : Stmt := top 79
abbrev N_misfits : List Str := ["row", "poly", "spot"]
theorem sc_misfits : FnScope N_misfits ["row", "poly"] (defScope s_misfits) := ⟨rfl, rfl, rfl, by decide +kernel, rfl, by decide +kernel, by decide +kernel⟩
theorem bd_misfits : ∀ (kV doc pm : Value) (an : Option Addr) (cdv ct : Value) (us : List Value), us.length = (["row", "poly"] : List Str).length → bindArgs (PySem.W.fnOf "misfits" "misfits" (defArgs s_misfits) (defBody s_misfits) (defScope s_misfits) .none kV doc pm an cdv ct) ⟨us, []⟩ = pure ((["row", "poly"] : List Str).zip us) := fun _ _ _ _ _ _ us hl => match us, hl with | [_, _], _ => rfl
abbrev s_paper_in : Stmt := top 80
abbrev N_paper_in : List Str := ["row", "polys", "found", "levels", "steps", "near", "far"]
theorem sc_paper_in : FnScope N_paper_in ["row"] (defScope s_paper_in) := ⟨rfl, rfl, rfl, by decide +kernel, rfl, by decide +kernel, by decide +kernel⟩
theorem bd_paper_in : ∀ (kV doc pm : Value) (an : Option Addr) (cdv ct : Value) (us : List Value), us.length = (["row"] : List Str).length → bindArgs (PySem.W.fnOf "paper_in" "paper_in" (defArgs s_paper_in) (defBody s_paper_in) (defScope s_paper_in) .none kV doc pm an cdv ct) ⟨us, []⟩ = pure ((["row"] : List Str).zip us) := fun _ _ _ _ _ _ us hl => match us, hl with | [_], _ => rfl
abbrev s_is_of_share : Stmt := top 81
abbrev N_is_of_share : List Str := ["row"]
theorem sc_is_of_share : FnScope N_is_of_share ["row"] (defScope s_is_of_share) := ⟨rfl, rfl, rfl, by decide +kernel, rfl, by decide +kernel, by decide +kernel⟩
theorem bd_is_of_share : ∀ (kV doc pm : Value) (an : Option Addr) (cdv ct : Value) (us : List Value), us.length = (["row"] : List Str).length → bindArgs (PySem.W.fnOf "is_of_share" "is_of_share" (defArgs s_is_of_share) (defBody s_is_of_share) (defScope s_is_of_share) .none kV doc pm an cdv ct) ⟨us, []⟩ = pure ((["row"] : List Str).zip us) := fun _ _ _ _ _ _ us hl => match us, hl with | [_], _ => rfl
abbrev s_need_of_share : Stmt := top 82
abbrev N_need_of_share : List Str := ["row", "paper"]
theorem sc_need_of_share : FnScope N_need_of_share ["row"] (defScope s_need_of_share) := ⟨rfl, rfl, rfl, by decide +kernel, rfl, by decide +kernel, by decide +kernel⟩
theorem bd_need_of_share : ∀ (kV doc pm : Value) (an : Option Addr) (cdv ct : Value) (us : List Value), us.length = (["row"] : List Str).length → bindArgs (PySem.W.fnOf "need_of_share" "need_of_share" (defArgs s_need_of_share) (defBody s_need_of_share) (defScope s_need_of_share) .none kV doc pm an cdv ct) ⟨us, []⟩ = pure ((["row"] : List Str).zip us) := fun _ _ _ _ _ _ us hl => match us, hl with | [_], _ => rfl
abbrev s_ladder_of : Stmt := top 83
abbrev N_ladder_of : List Str := ["row"]
theorem sc_ladder_of : FnScope N_ladder_of ["row"] (defScope s_ladder_of) := ⟨rfl, rfl, rfl, by decide +kernel, rfl, by decide +kernel, by decide +kernel⟩
theorem bd_ladder_of : ∀ (kV doc pm : Value) (an : Option Addr) (cdv ct : Value) (us : List Value), us.length = (["row"] : List Str).length → bindArgs (PySem.W.fnOf "ladder_of" "ladder_of" (defArgs s_ladder_of) (defBody s_ladder_of) (defScope s_ladder_of) .none kV doc pm an cdv ct) ⟨us, []⟩ = pure ((["row"] : List Str).zip us) := fun _ _ _ _ _ _ us hl => match us, hl with | [_], _ => rfl
abbrev s__law_mixed : Stmt := top 85
abbrev N__law_mixed : List Str := ["_law_cell", "_law_k"]
theorem sc__law_mixed : FnScope N__law_mixed ["_law_cell", "_law_k"] (defScope s__law_mixed) := ⟨rfl, rfl, rfl, by decide +kernel, rfl, by decide +kernel, by decide +kernel⟩
theorem bd__law_mixed : ∀ (kV doc pm : Value) (an : Option Addr) (cdv ct : Value) (us : List Value), us.length = (["_law_cell", "_law_k"] : List Str).length → bindArgs (PySem.W.fnOf "_law_mixed" "_law_mixed" (defArgs s__law_mixed) (defBody s__law_mixed) (defScope s__law_mixed) .none kV doc pm an cdv ct) ⟨us, []⟩ = pure ((["_law_cell", "_law_k"] : List Str).zip us) := fun _ _ _ _ _ _ us hl => match us, hl with | [_, _], _ => rfl
abbrev s__law_begin : Stmt := top 86
abbrev N__law_begin : List Str := ["_law_script", "_law_cells", "_law_cell"]
theorem sc__law_begin : FnScope N__law_begin ["_law_script"] (defScope s__law_begin) := ⟨rfl, rfl, rfl, by decide +kernel, rfl, by decide +kernel, by decide +kernel⟩
theorem bd__law_begin : ∀ (kV doc pm : Value) (an : Option Addr) (cdv ct : Value) (us : List Value), us.length = (["_law_script"] : List Str).length → bindArgs (PySem.W.fnOf "_law_begin" "_law_begin" (defArgs s__law_begin) (defBody s__law_begin) (defScope s__law_begin) .none kV doc pm an cdv ct) ⟨us, []⟩ = pure ((["_law_script"] : List Str).zip us) := fun _ _ _ _ _ _ us hl => match us, hl with | [_], _ => rfl
abbrev s__law_draw : Stmt := top 87
abbrev N__law_draw : List Str := ["_law_state", "_law_many", "_law_at", "_law_place", "_law_left", "_law_number"]
theorem sc__law_draw : FnScope N__law_draw ["_law_state", "_law_many"] (defScope s__law_draw) := ⟨rfl, rfl, rfl, by decide +kernel, rfl, by decide +kernel, by decide +kernel⟩
theorem bd__law_draw : ∀ (kV doc pm : Value) (an : Option Addr) (cdv ct : Value) (us : List Value), us.length = (["_law_state", "_law_many"] : List Str).length → bindArgs (PySem.W.fnOf "_law_draw" "_law_draw" (defArgs s__law_draw) (defBody s__law_draw) (defScope s__law_draw) .none kV doc pm an cdv ct) ⟨us, []⟩ = pure ((["_law_state", "_law_many"] : List Str).zip us) := fun _ _ _ _ _ _ us hl => match us, hl with | [_, _], _ => rfl
abbrev s__law_ratio : Stmt := top 88
abbrev N__law_ratio : List Str := ["_law_top", "_law_bottom", "_law_one", "_law_other"]
theorem sc__law_ratio : FnScope N__law_ratio ["_law_top", "_law_bottom"] (defScope s__law_ratio) := ⟨rfl, rfl, rfl, by decide +kernel, rfl, by decide +kernel, by decide +kernel⟩
theorem bd__law_ratio : ∀ (kV doc pm : Value) (an : Option Addr) (cdv ct : Value) (us : List Value), us.length = (["_law_top", "_law_bottom"] : List Str).length → bindArgs (PySem.W.fnOf "_law_ratio" "_law_ratio" (defArgs s__law_ratio) (defBody s__law_ratio) (defScope s__law_ratio) .none kV doc pm an cdv ct) ⟨us, []⟩ = pure ((["_law_top", "_law_bottom"] : List Str).zip us) := fun _ _ _ _ _ _ us hl => match us, hl with | [_, _], _ => rfl
abbrev s__law_plus : Stmt := top 89
abbrev N__law_plus : List Str := ["_law_one", "_law_other"]
theorem sc__law_plus : FnScope N__law_plus ["_law_one", "_law_other"] (defScope s__law_plus) := ⟨rfl, rfl, rfl, by decide +kernel, rfl, by decide +kernel, by decide +kernel⟩
theorem bd__law_plus : ∀ (kV doc pm : Value) (an : Option Addr) (cdv ct : Value) (us : List Value), us.length = (["_law_one", "_law_other"] : List Str).length → bindArgs (PySem.W.fnOf "_law_plus" "_law_plus" (defArgs s__law_plus) (defBody s__law_plus) (defScope s__law_plus) .none kV doc pm an cdv ct) ⟨us, []⟩ = pure ((["_law_one", "_law_other"] : List Str).zip us) := fun _ _ _ _ _ _ us hl => match us, hl with | [_, _], _ => rfl
abbrev s__law_times : Stmt := top 90
abbrev N__law_times : List Str := ["_law_one", "_law_other"]
theorem sc__law_times : FnScope N__law_times ["_law_one", "_law_other"] (defScope s__law_times) := ⟨rfl, rfl, rfl, by decide +kernel, rfl, by decide +kernel, by decide +kernel⟩
theorem bd__law_times : ∀ (kV doc pm : Value) (an : Option Addr) (cdv ct : Value) (us : List Value), us.length = (["_law_one", "_law_other"] : List Str).length → bindArgs (PySem.W.fnOf "_law_times" "_law_times" (defArgs s__law_times) (defBody s__law_times) (defScope s__law_times) .none kV doc pm an cdv ct) ⟨us, []⟩ = pure ((["_law_one", "_law_other"] : List Str).zip us) := fun _ _ _ _ _ _ us hl => match us, hl with | [_, _], _ => rfl
abbrev s__law_under : Stmt := top 91
abbrev N__law_under : List Str := ["_law_one", "_law_other"]
theorem sc__law_under : FnScope N__law_under ["_law_one", "_law_other"] (defScope s__law_under) := ⟨rfl, rfl, rfl, by decide +kernel, rfl, by decide +kernel, by decide +kernel⟩
theorem bd__law_under : ∀ (kV doc pm : Value) (an : Option Addr) (cdv ct : Value) (us : List Value), us.length = (["_law_one", "_law_other"] : List Str).length → bindArgs (PySem.W.fnOf "_law_under" "_law_under" (defArgs s__law_under) (defBody s__law_under) (defScope s__law_under) .none kV doc pm an cdv ct) ⟨us, []⟩ = pure ((["_law_one", "_law_other"] : List Str).zip us) := fun _ _ _ _ _ _ us hl => match us, hl with | [_, _], _ => rfl
abbrev s__law_sum : Stmt := top 92
abbrev N__law_sum : List Str := ["_law_some", "_law_found", "_law_one"]
theorem sc__law_sum : FnScope N__law_sum ["_law_some"] (defScope s__law_sum) := ⟨rfl, rfl, rfl, by decide +kernel, rfl, by decide +kernel, by decide +kernel⟩
theorem bd__law_sum : ∀ (kV doc pm : Value) (an : Option Addr) (cdv ct : Value) (us : List Value), us.length = (["_law_some"] : List Str).length → bindArgs (PySem.W.fnOf "_law_sum" "_law_sum" (defArgs s__law_sum) (defBody s__law_sum) (defScope s__law_sum) .none kV doc pm an cdv ct) ⟨us, []⟩ = pure ((["_law_some"] : List Str).zip us) := fun _ _ _ _ _ _ us hl => match us, hl with | [_], _ => rfl
abbrev s__law_share : Stmt := top 93
abbrev N__law_share : List Str := ["_law_state", "_law_few", "_law_numbers", "_law_k", "_law_one", "_law_spot", "_law_far"]
theorem sc__law_share : FnScope N__law_share ["_law_state", "_law_few"] (defScope s__law_share) := ⟨rfl, rfl, rfl, by decide +kernel, rfl, by decide +kernel, by decide +kernel⟩
theorem bd__law_share : ∀ (kV doc pm : Value) (an : Option Addr) (cdv ct : Value) (us : List Value), us.length = (["_law_state", "_law_few"] : List Str).length → bindArgs (PySem.W.fnOf "_law_share" "_law_share" (defArgs s__law_share) (defBody s__law_share) (defScope s__law_share) .none kV doc pm an cdv ct) ⟨us, []⟩ = pure ((["_law_state", "_law_few"] : List Str).zip us) := fun _ _ _ _ _ _ us hl => match us, hl with | [_, _], _ => rfl
abbrev s__law_power : Stmt := top 94
abbrev N__law_power : List Str := ["_law_one", "_law_many", "_law_found_so", "_law_k"]
theorem sc__law_power : FnScope N__law_power ["_law_one", "_law_many"] (defScope s__law_power) := ⟨rfl, rfl, rfl, by decide +kernel, rfl, by decide +kernel, by decide +kernel⟩
theorem bd__law_power : ∀ (kV doc pm : Value) (an : Option Addr) (cdv ct : Value) (us : List Value), us.length = (["_law_one", "_law_many"] : List Str).length → bindArgs (PySem.W.fnOf "_law_power" "_law_power" (defArgs s__law_power) (defBody s__law_power) (defScope s__law_power) .none kV doc pm an cdv ct) ⟨us, []⟩ = pure ((["_law_one", "_law_many"] : List Str).zip us) := fun _ _ _ _ _ _ us hl => match us, hl with | [_, _], _ => rfl
abbrev s__law_moments : Stmt := top 95
abbrev N__law_moments : List Str := ["_law_share_so", "_law_top", "_law_found_so", "_law_k", "_law_number", "_law_weight"]
theorem sc__law_moments : FnScope N__law_moments ["_law_share_so", "_law_top"] (defScope s__law_moments) := ⟨rfl, rfl, rfl, by decide +kernel, rfl, by decide +kernel, by decide +kernel⟩
theorem bd__law_moments : ∀ (kV doc pm : Value) (an : Option Addr) (cdv ct : Value) (us : List Value), us.length = (["_law_share_so", "_law_top"] : List Str).length → bindArgs (PySem.W.fnOf "_law_moments" "_law_moments" (defArgs s__law_moments) (defBody s__law_moments) (defScope s__law_moments) .none kV doc pm an cdv ct) ⟨us, []⟩ = pure ((["_law_share_so", "_law_top"] : List Str).zip us) := fun _ _ _ _ _ _ us hl => match us, hl with | [_, _], _ => rfl
abbrev s__law_errors_good : Stmt := top 96
abbrev N__law_errors_good : List Str := ["_law_left", "_law_few", "_law_gone", "_law_words", "_law_paper", "_law_none", "_law_term", "_law_odd", "_law_one"]
theorem sc__law_errors_good : FnScope N__law_errors_good [] (defScope s__law_errors_good) := ⟨rfl, rfl, rfl, by decide +kernel, rfl, by decide +kernel, by decide +kernel⟩
theorem bd__law_errors_good : ∀ (kV doc pm : Value) (an : Option Addr) (cdv ct : Value) (us : List Value), us.length = ([] : List Str).length → bindArgs (PySem.W.fnOf "_law_errors_good" "_law_errors_good" (defArgs s__law_errors_good) (defBody s__law_errors_good) (defScope s__law_errors_good) .none kV doc pm an cdv ct) ⟨us, []⟩ = pure (([] : List Str).zip us) := fun _ _ _ _ _ _ us hl => match us, hl with | [], _ => rfl
abbrev s__law_good : Stmt := top 97
abbrev N__law_good : List Str := ["_law_state", "_law_share_so", "_law_other", "_law_many", "_law_row", "_law_ladder_so", "_law_last", "_law_number", "_law_weight", "_law_away", "_law_mark", "_law_top"]
theorem sc__law_good : FnScope N__law_good ["_law_state"] (defScope s__law_good) := ⟨rfl, rfl, rfl, by decide +kernel, rfl, by decide +kernel, by decide +kernel⟩
theorem bd__law_good : ∀ (kV doc pm : Value) (an : Option Addr) (cdv ct : Value) (us : List Value), us.length = (["_law_state"] : List Str).length → bindArgs (PySem.W.fnOf "_law_good" "_law_good" (defArgs s__law_good) (defBody s__law_good) (defScope s__law_good) .none kV doc pm an cdv ct) ⟨us, []⟩ = pure ((["_law_state"] : List Str).zip us) := fun _ _ _ _ _ _ us hl => match us, hl with | [_], _ => rfl
abbrev s_law : Stmt := top 98
abbrev N_law : List Str := ["_law_script", "_law_state", "_law_turn"]
theorem sc_law : FnScope N_law ["_law_script"] (defScope s_law) := ⟨rfl, rfl, rfl, by decide +kernel, rfl, by decide +kernel, by decide +kernel⟩
theorem bd_law : ∀ (kV doc pm : Value) (an : Option Addr) (cdv ct : Value) (us : List Value), us.length = (["_law_script"] : List Str).length → bindArgs (PySem.W.fnOf "law" "law" (defArgs s_law) (defBody s_law) (defScope s_law) .none kV doc pm an cdv ct) ⟨us, []⟩ = pure ((["_law_script"] : List Str).zip us) := fun _ _ _ _ _ _ us hl => match us, hl with | [_], _ => rfl
def fr (r : Rat) : PyData := .tuple [.int r.num, .int (r.den : Int)]
/-- what the top leaves -/
structure Tx (K : PySem.W.Frag) (mg : Str → Option Value) : Prop where
  b_len : mg "len" = none
  b_abs : mg "abs" = none
  b_int : mg "int" = none
  b_bool : mg "bool" = none
  b_isinstance : mg "isinstance" = none
  b_tuple : mg "tuple" = none
  b_list : mg "list" = none
  b_all : mg "all" = none
  b_max : mg "max" = none
  b_min : mg "min" = none
  b_range : mg "range" = none
  b_enumerate : mg "enumerate" = none
  b_zip : mg "zip" = none
  b_ValueError : mg "ValueError" = none
  b_RuntimeError : mg "RuntimeError" = none
  b_OverflowError : mg "OverflowError" = none
  b_KeyError : mg "KeyError" = none
  d_is_integer : Df K mg "is_integer" s_is_integer
  d_common : Df K mg "common" s_common
  d_made : Df K mg "made" s_made
  d_is_fraction : Df K mg "is_fraction" s_is_fraction
  d_whole : Df K mg "whole" s_whole
  d_add : Df K mg "add" s_add
  d_sub : Df K mg "sub" s_sub
  d_mul : Df K mg "mul" s_mul
  d_div : Df K mg "div" s_div
  d_is_under : Df K mg "is_under" s_is_under
  d_sum_in : Df K mg "sum_in" s_sum_in
  d_need_fraction : Df K mg "need_fraction" s_need_fraction
  d_power_in : Df K mg "power_in" s_power_in
  d_are_fractions : Df K mg "are_fractions" s_are_fractions
  d_is_poly : Df K mg "is_poly" s_is_poly
  d_need_poly : Df K mg "need_poly" s_need_poly
  d_trimmed : Df K mg "trimmed" s_trimmed
  d_part_of : Df K mg "part_of" s_part_of
  d_sum_of : Df K mg "sum_of" s_sum_of
  d_less_of : Df K mg "less_of" s_less_of
  d_times_of : Df K mg "times_of" s_times_of
  d_raised_of : Df K mg "raised_of" s_raised_of
  d_product_of : Df K mg "product_of" s_product_of
  d_worth_of : Df K mg "worth_of" s_worth_of
  d_worth_at : Df K mg "worth_at" s_worth_at
  d_is_row : Df K mg "is_row" s_is_row
  d_need_row : Df K mg "need_row" s_need_row
  d_is_pair : Df K mg "is_pair" s_is_pair
  d_are_pairs : Df K mg "are_pairs" s_are_pairs
  d_is_share : Df K mg "is_share" s_is_share
  d_need_share : Df K mg "need_share" s_need_share
  d_need_top : Df K mg "need_top" s_need_top
  d_moments_in : Df K mg "moments_in" s_moments_in
  d_moments : Df K mg "moments" s_moments
  d_sum_for : Df K mg "sum_for" s_sum_for
  d_is_form : Df K mg "is_form" s_is_form
  d_is_ended_in : Df K mg "is_ended_in" s_is_ended_in
  d_is_ladder : Df K mg "is_ladder" s_is_ladder
  d_need_ladder : Df K mg "need_ladder" s_need_ladder
  d_is_ended : Df K mg "is_ended" s_is_ended
  d_next_rung : Df K mg "next_rung" s_next_rung
  d_rungs_in : Df K mg "rungs_in" s_rungs_in
  d_rung_polys : Df K mg "rung_polys" s_rung_polys
  d_stepped : Df K mg "stepped" s_stepped
  d_row_in : Df K mg "row_in" s_row_in
  d_row_of : Df K mg "row_of" s_row_of
  d_square_sum : Df K mg "square_sum" s_square_sum
  d_level_by : Df K mg "level_by" s_level_by
  d_built : Df K mg "built" s_built
  d_misfits : Df K mg "misfits" s_misfits
  d_paper_in : Df K mg "paper_in" s_paper_in
  d_is_of_share : Df K mg "is_of_share" s_is_of_share
  d_need_of_share : Df K mg "need_of_share" s_need_of_share
  d_ladder_of : Df K mg "ladder_of" s_ladder_of
  d__law_mixed : Df K mg "_law_mixed" s__law_mixed
  d__law_begin : Df K mg "_law_begin" s__law_begin
  d__law_draw : Df K mg "_law_draw" s__law_draw
  d__law_ratio : Df K mg "_law_ratio" s__law_ratio
  d__law_plus : Df K mg "_law_plus" s__law_plus
  d__law_times : Df K mg "_law_times" s__law_times
  d__law_under : Df K mg "_law_under" s__law_under
  d__law_sum : Df K mg "_law_sum" s__law_sum
  d__law_share : Df K mg "_law_share" s__law_share
  d__law_power : Df K mg "_law_power" s__law_power
  d__law_moments : Df K mg "_law_moments" s__law_moments
  d__law_errors_good : Df K mg "_law_errors_good" s__law_errors_good
  d__law_good : Df K mg "_law_good" s__law_good
  d_law : Df K mg "law" s_law
  c_MOST_PARTS : ∃ t, mg "MOST_PARTS" = some (.int 12 t)
  c_MOST_MOMENTS : ∃ t, mg "MOST_MOMENTS" = some (.int 9 t)
  c_MOST_PAIRS : ∃ t, mg "MOST_PAIRS" = some (.int 6 t)
  c_MOST_OPEN : ∃ t, mg "MOST_OPEN" = some (.int 4 t)
  c_MOST_ENDED : ∃ t, mg "MOST_ENDED" = some (.int 5 t)
  c_LADDER : ∃ t, mg "LADDER" = some (.str "ladder" t)
  c_SQUARE : ∃ t, mg "SQUARE" = some (.str "square" t)
  c_REST : ∃ t, mg "REST" = some (.str "rest" t)
  c_NOUGHT : ∃ a, mg "NOUGHT" = some (.ref a) ∧ ∀ H, Dp K H (.ref a) (fr 0)
  c_ONE : ∃ a, mg "ONE" = some (.ref a) ∧ ∀ H, Dp K H (.ref a) (.tuple [fr 1])
end RS

set_option Elab.async false
/-! Plain: fractions' sizes. -/
namespace RS
def Fz (r : Rat) : Prop := r.num.natAbs < 2 ^ 4400 ∧ r.den < 2 ^ 4400

theorem made_num {a b : Int} (hb : 0 < b) : (Rat.divInt a b).num = a / ((Int.gcd a b : Nat) : Int) := by
  rw [Rat.num_divInt, Int.sign_eq_one_of_pos hb, Int.one_mul, Int.gcd_comm]
theorem made_den {a b : Int} (hb : 0 < b) : ((Rat.divInt a b).den : Int) = b / ((Int.gcd a b : Nat) : Int) := by
  rw [Rat.den_divInt, if_neg (by omega), Int.gcd_comm, Int.natCast_ediv, Int.natAbs_of_nonneg (by omega)]
theorem add_made (r s : Rat) : Rat.divInt (r.num * (s.den : Int) + s.num * (r.den : Int)) ((r.den : Int) * (s.den : Int)) = r + s := by
  rw [Rat.add_def', ← Int.natCast_mul, Rat.divInt_ofNat]
theorem sub_made (r s : Rat) : Rat.divInt (r.num * (s.den : Int) - s.num * (r.den : Int)) ((r.den : Int) * (s.den : Int)) = r - s := by
  rw [Rat.sub_def', ← Int.natCast_mul, Rat.divInt_ofNat]
theorem mul_made (r s : Rat) : Rat.divInt (r.num * s.num) ((r.den : Int) * (s.den : Int)) = r * s := by
  rw [Rat.mul_def', ← Int.natCast_mul, Rat.divInt_ofNat]
theorem div_made (r s : Rat) : Rat.divInt (r.num * (s.den : Int)) ((r.den : Int) * s.num) = r / s := by
  rw [Rat.div_def, Rat.inv_def, ← Rat.divInt_mul_divInt, Rat.num_divInt_den]
theorem pow9000 {a b : Nat} (ha : a < 2 ^ 4400) (hb : b < 2 ^ 4400) : a * b < 2 ^ 9000 := by
  have h1 : a * b < 2 ^ 4400 * 2 ^ 4400 := Nat.mul_lt_mul'' ha hb
  rw [← Nat.pow_add] at h1
  exact Nat.lt_of_lt_of_le h1 (Nat.pow_le_pow_right (by decide) (by decide))
theorem den_pos' (r : Rat) : (0 : Int) < (r.den : Int) := by exact_mod_cast r.den_pos
theorem sum_take_succ (l : List Rat) (k : Nat) (x : Rat) (h : l[k]? = some x) : (l.take (k + 1)).sum = (l.take k).sum + x := by
  rw [List.take_add_one, h]
  have app : ∀ (a b : List Rat), (a ++ b).sum = a.sum + b.sum := by
    intro a b
    induction a with
    | nil => simp [Rat.zero_add]
    | cons y a ih => rw [List.cons_append, List.sum_cons, List.sum_cons, ih, Rat.add_assoc]
  rw [app]
  simp [Rat.add_zero]
theorem gcd_step (a b : Nat) : Nat.gcd b (a % b) = Nat.gcd a b := by
  rw [Nat.gcd_comm b, ← Nat.gcd_rec, Nat.gcd_comm]
end RS

set_option Elab.async false
set_option linter.all false
set_option maxRecDepth 100000
set_option maxHeartbeats 4000000
/-! The defs of fractions. -/
namespace RS
open PySem PySem.Spec PyProof.Rows L2

/-! ### isinstance, by data -/
def tyN : PyData → String
  | .none => "NoneType"
  | .bool _ => "bool"
  | .int _ => "int"
  | .str _ => "str"
  | .list _ => "list"
  | .tuple _ => "tuple"
  | .dict _ => "dict"
theorem tyX_of {K : PySem.W.Frag} {H : Hp} : ∀ {d : PyData} {v : V}, Dp K H v d → TyX K H v (.type (tyN d))
  | .none, _, h => by cases h; exact .base .non
  | .bool b, _, h => by cases h; exact .base (.bl b)
  | .int i, _, h => by cases h; exact .base (.int i)
  | .str x, _, h => by cases h; exact .base (.str x)
  | .list ds, _, h => by
    cases h with
    | lst q _ =>
      rcases q with (q | ⟨o, q⟩) | ⟨o, _, _, q, hc, _⟩
      · exact .base (.lst q)
      · exact .base (.frz q)
      · exact .kList q hc
  | .tuple ds, _, h => by
    cases h with
    | tup q _ =>
      rcases q with (q | ⟨o, q⟩) | ⟨o, _, _, q, hc, _⟩
      · exact .base (.tup q)
      · exact .fTuple q
      · exact .kTuple q hc
  | .dict _, _, h => by cases h
section
variable {X : Cx} {H0 : Hp} {δ : List Sl} {e : Expr} {pos p p2 : Pos} {d : PyData}
theorem ev_isi {T : Str} {n : String} {b : Bool} (hm : X.mg "isinstance" = none) (hmT : X.mg T = none) (hv : bootBuiltins T = some (.type n)) (ha : EV X H0 δ e d) (hk : kitB (tyN d) n = some b) (hg : Gl X "isinstance" := by rfl) (hgT : Gl X T := by rfl) (hT : T ≠ "__name__" := by decide) (hT2 : (T == ("__debug__" : Str)) = false := by decide)
    (h1 : starEach [e, .Name T p2] X.env = (false, eval e X.env) :: starEach [.Name T p2] X.env := by rfl) (h2 : starEach [.Name T p2] X.env = (false, eval (.Name T p2) X.env) :: starEach [] X.env := by rfl) (h3 : (backTo pos (starEach [.Name T p2] X.env)).any (·.1) = false := by rfl) :
    EV X H0 δ (.Call (.Name "isinstance" p) [e, .Name T p2] [] pos) (.bool b) := fun σ H E Q q =>
  e_of (pe_callB call_isi hg hm hv_isi (pa_cons c_e (pa_cons (pe_bltn (v := .ty n) hgT hmT hv rfl hT hT2) pa_nil h2) h1) (he := h1) (hpl := h3)) (ha σ H E _ fun v H1 s1 hd => ⟨v, .ty n, _, _, b, rfl, .ty n, tyX_of hd, kit_ty hk, q _ H1 s1 (.bl b)⟩)
end
theorem kib_ii : kitB "int" "int" = some true := by decide +kernel
theorem kib_ib : kitB "int" "bool" = some false := by decide +kernel
theorem kib_tt : kitB "tuple" "tuple" = some true := by decide +kernel
theorem map_two {α : Type} {f g : α → PyData} {xs : List α} {k : Nat} {d e : PyData} (h : (xs.map f)[k]? = some d) (h' : (xs.map g)[k]? = some e) : ∃ x, x ∈ xs ∧ d = f x ∧ e = g x := by
  rw [List.getElem?_map] at h h'
  cases q : xs[k]? with
  | none => rw [q] at h; cases h
  | some x =>
    rw [q] at h h'
    exact ⟨x, List.mem_of_getElem? q, (Option.some.inj h).symm, (Option.some.inj h').symm⟩
theorem map_one {α : Type} {f : α → PyData} {xs : List α} {k : Nat} {d : PyData} (h : (xs.map f)[k]? = some d) : ∃ x, xs[k]? = some x ∧ d = f x := by
  rw [List.getElem?_map] at h
  cases q : xs[k]? with
  | none => rw [q] at h; cases h
  | some x =>
    rw [q] at h
    exact ⟨x, rfl, (Option.some.inj h).symm⟩
theorem all_true {α : Type} (xs : List α) : (xs.map fun _ => true).all id = true := by induction xs <;> simp_all
theorem nol_fr (r : Rat) : nol (fr r) = true := rfl
theorem nolAll_fr (l : List Rat) : nolAll (l.map fr) = true := nolAll_map nol_fr l
theorem nolAll_bool (l : List Bool) : nolAll (l.map PyData.bool) = true := nolAll_map (fun _ => rfl) l

section
variable {P : Program} {w : World} {K : PySem.W.Frag} {mg : Str → Option Value} {base : Heap}
inductive R_is_integer : List PyData → PyData → Prop
  | mk (i : Int) : R_is_integer [.int i] (.bool true)
theorem ok_is_integer (T : Tx K mg) : Fn P w K mg base "is_integer" ["thing"] 1 (spD K R_is_integer) :=
  Fn.ofD T.d_is_integer sc_is_integer bd_is_integer (fun _ _ h => by cases h; rfl) fun f cdv A outer s H E ds d hr hR => by
    cases hR with
    | mk i => exact ss_one (s1_ret (ev_andT (ev_isi T.b_isinstance T.b_int hv_int (ev_var 0) (by exact kib_ii)) (ev_one (ev_not (ev_isi T.b_isinstance T.b_bool hv_bool (ev_var 0) (by exact kib_ib))))) rfl)
inductive R_common : List PyData → PyData → Prop
  | mk (a b : Int) : R_common [.int a, .int b] (.int ((Int.gcd a b : Nat) : Int))
theorem ok_common (T : Tx K mg) : Fn P w K mg base "common" ["one", "other"] 1 (spD K R_common) :=
  Fn.ofD T.d_common sc_common bd_common (fun _ _ h => by cases h; rfl) fun f cdv A outer s H E ds d hr hR => by
    cases hR with
    | mk a b =>
      refine ss_cons (s1_par2 0 1 rfl sc_common.nd (by decide) (es_d (ev_abs T.b_abs (ev_var 0))) (es_d (ev_abs T.b_abs (ev_var 1))) ?_)
      refine ss_cons (s1_while PassesOwn.never (fun m δ => ∃ x y : Nat, δ = [.dat (.int (x : Int)), .dat (.int (y : Int))] ∧ m = y ∧ Nat.gcd x y = Int.gcd a b) b.natAbs ⟨_, _, rfl, rfl, rfl⟩ ?_)
      rintro m δ ⟨x, y, rfl, rfl, hg⟩
      refine ⟨_, et_cmp (ec_neI (ev_var 1) ev_int), fun hb => ?_, fun hb => ?_⟩
      · have hy : 0 < m := by
          have : ¬ ((m : Int) = 0) := by simpa using hb
          omega
        refine ⟨fun δ => ∃ x y : Nat, δ = [.dat (.int (x : Int)), .dat (.int (y : Int))] ∧ y < m ∧ Nat.gcd x y = Int.gcd a b, fun δ ⟨x', y', e, l, g⟩ => ⟨y', l, x', y', e, rfl, g⟩, ?_⟩
        refine ss_one (s1_par2 0 1 rfl sc_common.nd (by decide) (es_d (ev_var 1)) (es_d (ev_mod (ev_var 0) (ev_intc T.b_int (ev_var 1)) (by omega))) ?_)
        exact ⟨m, x % m, rfl, Nat.mod_lt _ hy, by rw [gcd_step]; exact hg⟩
      · have hy : m = 0 := by
          have : (m : Int) = 0 := by simpa using hb
          omega
        subst hy
        rw [Nat.gcd_zero_right] at hg
        subst hg
        exact ss_one (s1_ret (ev_var 0) rfl)
inductive R_made : List PyData → PyData → Prop
  | mk (a b : Int) (hb : b ≠ 0) (hz : b.natAbs < 2 ^ 9000) : R_made [.int a, .int b] (fr (Rat.divInt a b))
theorem cdiv_gcd {a b : Int} (hb : b ≠ 0) (hz : b.natAbs < 2 ^ 9000) : CDivW 0 ((Int.gcd a b : Nat) : Int) := by
  have h1 : 0 < Int.gcd a b := Nat.pos_of_ne_zero fun e => hb (Int.gcd_eq_zero_iff.mp e).2
  have h2 : Int.gcd a b ≤ b.natAbs := Nat.le_of_dvd (by omega) (Int.gcd_dvd_natAbs_right a b)
  exact wide_div (i := 0) (b := 9000) (by exact_mod_cast h1) (by rw [Int.natAbs_natCast]; exact Nat.lt_of_le_of_lt h2 hz) (by decide) (Nat.le_refl _)
theorem ok_made (T : Tx K mg) : Fn P w K mg base "made" ["top", "bottom"] 2 (spD K R_made) :=
  Fn.ofD T.d_made sc_made bd_made (fun _ _ h => by cases h; rfl) fun f cdv A outer s H E ds d hr hR => by
    cases hR with
    | mk a b hb hz =>
      have tail : ∀ (a' b' : Int) (s1 s2 : Sl), s1.data = some (.int a') → s2.data = some (.int b') → 0 < b' → b'.natAbs < 2 ^ 9000 → Rat.divInt a' b' = Rat.divInt a b →
          SS (cx0 P w K mg base N_made "made" s_made f cdv A outer s H E) H [s1, s2, .non] ((defBody s_made).drop 1) { nx := fun _ => fr (Rat.divInt a b) = .none, rt := fun d' => d' = fr (Rat.divInt a b) } := by
        intro a' b' s1 s2 e1 e2 h0 h9 he
        have hc := cdiv_gcd (a := a') (b := b') (by omega) h9
        refine ss_cons (s1_set 2 sc_made.nd (ev_call (ok_common T) (hr.mono (by decide)) (ea_cons (ev_var 0 (by exact e1)) (ea_cons (ev_var 1 (by exact e2)) ea_nil)) (.mk a' b')) ?_)
        refine ss_one (s1_ret (ev_tup (ea_cons (ev_div (ev_var 0 (by exact e1)) (ev_var 2) (by exact hc)) (ea_cons (ev_div (ev_var 1 (by exact e2)) (ev_var 2) (by exact hc)) ea_nil))) ?_)
        show _ = fr (Rat.divInt a b)
        rw [← he]
        unfold fr
        rw [made_num h0, made_den h0]
      refine ss_cons (s1_if (et_cmp (ec_lt (ev_var 1) ev_int)) (fun h => ?_) (fun h => ?_))
      · have hb0 : b < 0 := by simpa using h
        refine ss_one (s1_par2 0 1 rfl sc_made.nd (by decide) (es_d (ev_sub ev_int (ev_var 0))) (es_d (ev_sub ev_int (ev_var 1))) ?_)
        exact tail (0 - a) (0 - b) _ _ rfl rfl (by omega) (by omega) (by rw [Int.zero_sub, Int.zero_sub, Rat.neg_divInt_neg])
      · have hb0 : ¬ b < 0 := by simpa using h
        refine ss_nil ?_
        exact tail a b _ _ rfl rfl (by omega) hz rfl
inductive R_is_fraction : List PyData → PyData → Prop
  | mk (r : Rat) : R_is_fraction [fr r] (.bool true)
theorem ok_is_fraction (T : Tx K mg) : Fn P w K mg base "is_fraction" ["thing"] 2 (spD K R_is_fraction) :=
  Fn.ofD T.d_is_fraction sc_is_fraction bd_is_fraction (fun _ _ h => by cases h; rfl) fun f cdv A outer s H E ds d hr hR => by
    cases hR with
    | mk r =>
      refine ss_cons (s1_ifF (et_w (ew_orF ?_ (ew_orF ?_ (ew_or1 (et_notT (et_valE (ev_all (bs := [true, true]) rfl T.b_all (EL.ev ?_)) ?_)))))) (ss_nil ?_))
      · exact et_notT (et_val (ev_isi T.b_isinstance T.b_tuple hv_tuple (ev_var 0) (by exact kib_tt)))
      · exact et_cmpE (ec_neI (ev_lenT T.b_len (ev_var 0)) ev_int) (by rfl)
      · refine el_lcN 1 sc_is_fraction.nd rfl rfl (it_tup (ds := [.int r.num, .int (r.den : Int)]) (ev_var 0) stays_c) ?_ ?_ _ ?_ ?_ ?_ ?_
        · exact blkOk_by (N := N_is_fraction) (sc := defScope s_is_fraction) (by decide +kernel)
        · exact fun _ _ _ _ _ => pg_name sc_is_fraction.nd rfl (Or.inl rfl)
        · rfl
        · rfl
        · exact Nat.le_of_ble_eq_true rfl
        · intro k d e h1 h2 s Hb C cl fp
          obtain ⟨i, rfl, rfl⟩ : ∃ i : Int, d = .int i ∧ e = .bool true := by
            match k, h1, h2 with
            | 0, h1, h2 => exact ⟨_, (Option.some.inj h1).symm, (Option.some.inj h2).symm⟩
            | 1, h1, h2 => exact ⟨_, (Option.some.inj h1).symm, (Option.some.inj h2).symm⟩
            | k + 2, h1, h2 => cases h1
          exact ev_call (ok_is_integer T) (hr.mono (by decide)) (ea_cons (ev_var 1) ea_nil) (.mk i)
      · rfl
      refine ss_one (s1_ret (ev_andT (ev_cmpE (ec_ge (ev_ix1 (ev_var 0)) ev_int) (by have := r.den_pos; simp; omega)) (ev_one (ev_cmpE (ec_eqI (ev_call (ok_common T) (hr.mono (by decide)) (ea_cons (ev_ix0 (ev_var 0)) (ea_cons (ev_ix1 (ev_var 0)) ea_nil)) (.mk _ _)) ev_int) ?_))) rfl)
      have : Int.gcd r.num (r.den : Int) = 1 := r.reduced
      rw [this]
      rfl
inductive R_whole : List PyData → PyData → Prop
  | mk (i : Int) : R_whole [.int i] (fr (i : Rat))
theorem ok_whole (T : Tx K mg) : Fn P w K mg base "whole" ["number"] 1 (spD K R_whole) :=
  Fn.ofD T.d_whole sc_whole bd_whole (fun _ _ h => by cases h; rfl) fun f cdv A outer s H E ds d hr hR => by
    cases hR with
    | mk i => exact ss_one (s1_ret (ev_tup (ea_cons (ev_var 0) (ea_cons ev_int ea_nil))) rfl)
inductive R_add : List PyData → PyData → Prop
  | mk (r s : Rat) (hr : Fz r) (hs : Fz s) : R_add [fr r, fr s] (fr (r + s))
inductive R_sub : List PyData → PyData → Prop
  | mk (r s : Rat) (hr : Fz r) (hs : Fz s) : R_sub [fr r, fr s] (fr (r - s))
inductive R_mul : List PyData → PyData → Prop
  | mk (r s : Rat) (hr : Fz r) (hs : Fz s) : R_mul [fr r, fr s] (fr (r * s))
inductive R_div : List PyData → PyData → Prop
  | mk (r s : Rat) (hr : Fz r) (hs : Fz s) (h0 : s ≠ 0) : R_div [fr r, fr s] (fr (r / s))
inductive R_is_under : List PyData → PyData → Prop
  | mk (r s : Rat) (hr : Fz r) (hs : Fz s) : R_is_under [fr r, fr s] (.bool (decide (r < s)))
theorem Fz.nd {r s : Rat} (hr : Fz r) (hs : Fz s) : CMulW r.num (s.den : Int) := wide_mul (a := 4400) (b := 4400) hr.1 (by rw [Int.natAbs_natCast]; exact hs.2) (by decide) (by decide) (by decide)
theorem Fz.dn {r s : Rat} (hr : Fz r) (hs : Fz s) : CMulW (r.den : Int) s.num := wide_mul (a := 4400) (b := 4400) (by rw [Int.natAbs_natCast]; exact hr.2) hs.1 (by decide) (by decide) (by decide)
theorem Fz.nn {r s : Rat} (hr : Fz r) (hs : Fz s) : CMulW r.num s.num := wide_mul (a := 4400) (b := 4400) hr.1 hs.1 (by decide) (by decide) (by decide)
theorem Fz.dd {r s : Rat} (hr : Fz r) (hs : Fz s) : CMulW (r.den : Int) (s.den : Int) := wide_mul (a := 4400) (b := 4400) (by rw [Int.natAbs_natCast]; exact hr.2) (by rw [Int.natAbs_natCast]; exact hs.2) (by decide) (by decide) (by decide)
theorem dd9 {r s : Rat} (hr : Fz r) (hs : Fz s) : ((r.den : Int) * (s.den : Int)).natAbs < 2 ^ 9000 := by
  rw [Int.natAbs_mul, Int.natAbs_natCast, Int.natAbs_natCast]; exact pow9000 hr.2 hs.2
theorem dn9 {r s : Rat} (hr : Fz r) (hs : Fz s) : ((r.den : Int) * s.num).natAbs < 2 ^ 9000 := by
  rw [Int.natAbs_mul, Int.natAbs_natCast]; exact pow9000 hr.2 hs.1
theorem dd0 (r s : Rat) : (r.den : Int) * (s.den : Int) ≠ 0 := Int.mul_ne_zero (by have := r.den_pos; omega) (by have := s.den_pos; omega)
theorem ok_add (T : Tx K mg) : Fn P w K mg base "add" ["one", "other"] 3 (spD K R_add) :=
  Fn.ofD T.d_add sc_add bd_add (fun _ _ h => by cases h; rfl) fun f cdv A outer s H E ds d hr hR => by
    cases hR with
    | mk r t h1 h2 =>
      exact ss_one (s1_ret ((ev_call (ok_made T) (hr.mono (by decide)) (ea_cons (ev_add (ev_mul (ev_ix0 (ev_var 0)) (ev_ix1 (ev_var 1)) (h1.nd h2)) (ev_mul (ev_ix0 (ev_var 1)) (ev_ix1 (ev_var 0)) (h2.nd h1))) (ea_cons (ev_mul (ev_ix1 (ev_var 0)) (ev_ix1 (ev_var 1)) (h1.dd h2)) ea_nil)) (.mk _ _ (dd0 r t) (dd9 h1 h2))).is (by rw [add_made])) rfl)
theorem ok_sub (T : Tx K mg) : Fn P w K mg base "sub" ["one", "other"] 3 (spD K R_sub) :=
  Fn.ofD T.d_sub sc_sub bd_sub (fun _ _ h => by cases h; rfl) fun f cdv A outer s H E ds d hr hR => by
    cases hR with
    | mk r t h1 h2 =>
      exact ss_one (s1_ret ((ev_call (ok_made T) (hr.mono (by decide)) (ea_cons (ev_sub (ev_mul (ev_ix0 (ev_var 0)) (ev_ix1 (ev_var 1)) (h1.nd h2)) (ev_mul (ev_ix0 (ev_var 1)) (ev_ix1 (ev_var 0)) (h2.nd h1))) (ea_cons (ev_mul (ev_ix1 (ev_var 0)) (ev_ix1 (ev_var 1)) (h1.dd h2)) ea_nil)) (.mk _ _ (dd0 r t) (dd9 h1 h2))).is (by rw [sub_made])) rfl)
theorem ok_mul (T : Tx K mg) : Fn P w K mg base "mul" ["one", "other"] 3 (spD K R_mul) :=
  Fn.ofD T.d_mul sc_mul bd_mul (fun _ _ h => by cases h; rfl) fun f cdv A outer s H E ds d hr hR => by
    cases hR with
    | mk r t h1 h2 =>
      exact ss_one (s1_ret ((ev_call (ok_made T) (hr.mono (by decide)) (ea_cons (ev_mul (ev_ix0 (ev_var 0)) (ev_ix0 (ev_var 1)) (h1.nn h2)) (ea_cons (ev_mul (ev_ix1 (ev_var 0)) (ev_ix1 (ev_var 1)) (h1.dd h2)) ea_nil)) (.mk _ _ (dd0 r t) (dd9 h1 h2))).is (by rw [mul_made])) rfl)
theorem ok_div (T : Tx K mg) : Fn P w K mg base "div" ["one", "other"] 3 (spD K R_div) :=
  Fn.ofD T.d_div sc_div bd_div (fun _ _ h => by cases h; rfl) fun f cdv A outer s H E ds d hr hR => by
    cases hR with
    | mk r t h1 h2 h0 =>
      have hn : t.num ≠ 0 := fun e => h0 (Rat.num_eq_zero.mp e)
      exact ss_one (s1_ret ((ev_call (ok_made T) (hr.mono (by decide)) (ea_cons (ev_mul (ev_ix0 (ev_var 0)) (ev_ix1 (ev_var 1)) (h1.nd h2)) (ea_cons (ev_mul (ev_ix1 (ev_var 0)) (ev_ix0 (ev_var 1)) (h1.dn h2)) ea_nil)) (.mk _ _ (Int.mul_ne_zero (by have := r.den_pos; omega) hn) (dn9 h1 h2))).is (by rw [div_made])) rfl)
theorem ok_is_under (T : Tx K mg) : Fn P w K mg base "is_under" ["one", "other"] 1 (spD K R_is_under) :=
  Fn.ofD T.d_is_under sc_is_under bd_is_under (fun _ _ h => by cases h; rfl) fun f cdv A outer s H E ds d hr hR => by
    cases hR with
    | mk r t h1 h2 =>
      exact ss_one (s1_ret ((ev_cmp (ec_lt (ev_mul (ev_ix0 (ev_var 0)) (ev_ix1 (ev_var 1)) (h1.nd h2)) (ev_mul (ev_ix0 (ev_var 1)) (ev_ix1 (ev_var 0)) (h2.nd h1)))).is (by congr 1; exact decide_eq_decide.mpr (Rat.lt_iff r t).symm)) rfl)
inductive R_sum_in : List PyData → PyData → Prop
  | mk (l : List Rat) (h1 : ∀ r ∈ l, Fz r) (h2 : ∀ k, Fz (l.take k).sum) : R_sum_in [.list (l.map fr)] (fr l.sum)
theorem ok_sum_in (T : Tx K mg) : Fn P w K mg base "sum_in" ["some"] 4 (spD K R_sum_in) :=
  Fn.ofD T.d_sum_in sc_sum_in bd_sum_in (fun _ _ h => by cases h; rfl) fun f cdv A outer s H E ds d hr hR => by
    cases hR with
    | mk l h1 h2 =>
      obtain ⟨aN, mN, dN⟩ := T.c_NOUGHT
      refine ss_cons (s1_set 1 sc_sum_in.nd (ev_cst mN dN) ?_)
      refine ss_cons (s1_forN 2 sc_sum_in.nd PassesOwn.never rfl (it_listA 0 (ds := l.map fr) rfl rfl (Or.inl rfl)) (fun k δ => ∃ x, δ = [.arg (.list (l.map fr)), .dat (fr (l.take k).sum), x]) ⟨_, rfl⟩ ?_ ?_)
      · rintro k d δ hk ⟨x, rfl⟩
        obtain ⟨r, hr', rfl⟩ := map_one hk
        refine ss_one (s1_set 1 sc_sum_in.nd (ev_call (ok_add T) (hr.mono (by decide)) (ea_cons (ev_var 1) (ea_cons (ev_var 2) ea_nil)) (.mk _ _ (h2 k) (h1 r (List.mem_of_getElem? hr')))) ?_)
        exact ⟨_, by rw [sum_take_succ l k r hr']; rfl⟩
      · rintro δ ⟨x, rfl⟩
        rw [List.length_map, List.take_length]
        exact ss_one (s1_ret (ev_var 1) rfl)
inductive R_need_fraction : List PyData → PyData → Prop
  | mk (r : Rat) : R_need_fraction [fr r] (fr r)
theorem ok_need_fraction (T : Tx K mg) : Fn P w K mg base "need_fraction" ["thing"] 3 (spD K R_need_fraction) :=
  Fn.ofD T.d_need_fraction sc_need_fraction bd_need_fraction (fun _ _ h => by cases h; rfl) fun f cdv A outer s H E ds d hr hR => by
    cases hR with
    | mk r =>
      refine ss_cons (s1_ifF (et_notT (et_val (ev_call (ok_is_fraction T) (hr.mono (by decide)) (ea_cons (ev_var 0) ea_nil) (.mk r)))) (ss_nil ?_))
      exact ss_one (s1_ret (ev_var 0) rfl)
inductive R_power_in : List PyData → PyData → Prop
  | mk (r : Rat) (n : Nat) (h1 : Fz r) (h2 : ∀ k, k < n → Fz (r ^ k)) (hn : n < 1000) : R_power_in [fr r, .int (n : Int)] (fr (r ^ n))
theorem ok_power_in (T : Tx K mg) : Fn P w K mg base "power_in" ["one", "number"] 4 (spD K R_power_in) :=
  Fn.ofD T.d_power_in sc_power_in bd_power_in (fun _ _ h => by cases h; rfl) fun f cdv A outer s H E ds d hr hR => by
    cases hR with
    | mk r n h1 h2 hn =>
      refine ss_cons (s1_set 2 sc_power_in.nd (ev_call (ok_whole T) (hr.mono (by decide)) (ea_cons ev_int ea_nil) (.mk 1)) ?_)
      refine ss_cons (s1_forN 3 sc_power_in.nd PassesOwn.never rfl (it_range n T.b_range (ev_var 1) (by omega)) (fun k δ => ∃ x, δ = [.arg (fr r), .arg (.int (n : Int)), .dat (fr (r ^ k)), x]) ⟨_, by rw [Rat.pow_zero]; rfl⟩ ?_ ?_)
      · rintro k d δ hk ⟨x, rfl⟩
        have hkn : k < n := by
          have := (List.getElem?_eq_some_iff.mp hk).1
          rwa [rangeD_len] at this
        refine ss_one (s1_set 2 sc_power_in.nd (ev_call (ok_mul T) (hr.mono (by decide)) (ea_cons (ev_var 2) (ea_cons (ev_var 0) ea_nil)) (.mk _ _ (h2 k hkn) h1)) ?_)
        exact ⟨_, by rw [Rat.pow_succ]; rfl⟩
      · rintro δ ⟨x, rfl⟩
        rw [rangeD_len]
        exact ss_one (s1_ret (ev_var 2) rfl)
end
end RS

set_option Elab.async false
/-! Plain: polynomials as lists of fractions. -/
namespace RS
def trim : List Rat → List Rat
  | [] => []
  | a :: l => if trim l = [] then (if a = 0 then [] else [a]) else a :: trim l
theorem trim_zero : ∀ l : List Rat, (∀ x ∈ l, x = 0) → trim l = []
  | [], _ => rfl
  | a :: l, h => by
    have h1 := trim_zero l fun x hx => h x (List.mem_cons_of_mem _ hx)
    have h2 : a = 0 := h a List.mem_cons_self
    simp [trim, h1, h2]
theorem trim_take : ∀ (l : List Rat) (m : Nat), m ≤ l.length → (∀ x ∈ l.drop m, x = 0) → (m = 0 ∨ ∃ x, l[m - 1]? = some x ∧ x ≠ 0) → trim l = l.take m
  | l, 0, _, h, _ => by rw [List.take_zero]; exact trim_zero l (by simpa using h)
  | [], m + 1, h, _, _ => by simp at h
  | a :: l, 1, _, h, h2 => by
    have h1 : trim l = [] := trim_zero l (by simpa using h)
    obtain ⟨x, e, hx⟩ := h2.resolve_left (by omega)
    have e2 : a = x := by simpa using e
    subst e2
    simp [trim, h1, hx]
  | a :: l, m + 2, hm, h, h2 => by
    obtain ⟨x, e, hx⟩ := h2.resolve_left (by omega)
    have e1 : l[m]? = some x := by simpa using e
    have h1 := trim_take l (m + 1) (by simpa using hm) (by simpa using h) (.inr ⟨x, by simpa using e1, hx⟩)
    have hne : l.take (m + 1) ≠ [] := by
      intro z
      have : l.length = 0 := by
        have := congrArg List.length z
        simp at this
        exact by simp [this]
      simp at this
      subst this
      simp at e1
    show (if trim l = [] then _ else _) = _
    rw [h1, if_neg hne, List.take_succ_cons]
/-- what stands at i, nought behind the end -/
def co (p : List Rat) (i : Nat) : Rat := p.getD i 0
theorem co_nil (i : Nat) : co [] i = 0 := by simp [co]
theorem co_cons_zero (a : Rat) (p : List Rat) : co (a :: p) 0 = a := rfl
theorem co_cons_succ (a : Rat) (p : List Rat) (i : Nat) : co (a :: p) (i + 1) = co p i := rfl
theorem co_out {p : List Rat} {i : Nat} (h : p.length ≤ i) : co p i = 0 := by simp [co, List.getD, List.getElem?_eq_none h]
theorem co_get {p : List Rat} {i : Nat} {x : Rat} (h : p[i]? = some x) : co p i = x := by simp [co, List.getD, h]
theorem co_trim : ∀ (p : List Rat) (i : Nat), co (trim p) i = co p i
  | [], i => rfl
  | a :: p, i => by
    have ih := co_trim p
    unfold trim
    by_cases h : trim p = []
    · rw [if_pos h]
      have z : ∀ j, co p j = 0 := fun j => by rw [← ih j, h, co_nil]
      by_cases ha : a = 0
      · rw [if_pos ha, co_nil]
        cases i with
        | zero => rw [co_cons_zero, ha]
        | succ i => rw [co_cons_succ, z]
      · rw [if_neg ha]
        cases i with
        | zero => rfl
        | succ i => rw [co_cons_succ, co_cons_succ, z, co_nil]
    · rw [if_neg h]
      cases i with
      | zero => rfl
      | succ i => rw [co_cons_succ, co_cons_succ, ih]
/-- no nought at the end -/
def Pol (p : List Rat) : Prop := p = [] ∨ ∃ x, p.getLast? = some x ∧ x ≠ 0
theorem pol_trim : ∀ p : List Rat, Pol (trim p)
  | [] => .inl rfl
  | a :: p => by
    unfold trim
    by_cases h : trim p = []
    · rw [if_pos h]
      by_cases ha : a = 0
      · rw [if_pos ha]; exact .inl rfl
      · rw [if_neg ha]; exact .inr ⟨a, rfl, ha⟩
    · rw [if_neg h]
      rcases pol_trim p with e | ⟨x, e, hx⟩
      · exact absurd e h
      · refine .inr ⟨x, ?_, hx⟩
        cases q : trim p with
        | nil => exact absurd q h
        | cons b t =>
          rw [q] at e
          rw [List.getLast?_cons_cons]
          exact e
theorem pol_len {p : List Rat} (h : Pol p) : p = [] ∨ co p (p.length - 1) ≠ 0 := by
  rcases h with h | ⟨x, e, hx⟩
  · exact .inl h
  · refine .inr ?_
    rw [List.getLast?_eq_getElem?] at e
    rw [co_get e]
    exact hx
/-- the same coefficients, the same list -/
theorem pol_ext {p q : List Rat} (hp : Pol p) (hq : Pol q) (h : ∀ i, co p i = co q i) : p = q := by
  have len : p.length = q.length := by
    rcases Nat.lt_trichotomy p.length q.length with l | l | l
    · exfalso
      rcases pol_len hq with e | e
      · subst e; simp at l
      · rw [← h, co_out (by omega)] at e; exact e rfl
    · exact l
    · exfalso
      rcases pol_len hp with e | e
      · subst e; simp at l
      · rw [h, co_out (by omega)] at e; exact e rfl
  apply List.ext_getElem? 
  intro i
  by_cases hi : i < p.length
  · have h1 : p[i]? = some (p[i]) := by simp [hi]
    have h2 : q[i]? = some (q[i]'(by omega)) := by simp [show i < q.length by omega]
    have := h i
    rw [co_get h1, co_get h2] at this
    rw [h1, h2, this]
  · rw [List.getElem?_eq_none (by omega), List.getElem?_eq_none (by omega)]
def addL (p q : List Rat) : List Rat := (List.range (max p.length q.length)).map fun i => co p i + co q i
def subL (p q : List Rat) : List Rat := (List.range (max p.length q.length)).map fun i => co p i - co q i
def mulL (p : List Rat) (a : Rat) : List Rat := p.map fun x => x * a
def psum (p q : List Rat) : List Rat := trim (addL p q)
def psub (p q : List Rat) : List Rat := trim (subL p q)
def ptim (p : List Rat) (a : Rat) : List Rat := trim (mulL p a)
def pshf (p : List Rat) (n : Nat) : List Rat := if p = [] then [] else List.replicate n 0 ++ p
/-- the first k parts' sum -/
def pmulTo (p q : List Rat) : Nat → List Rat
  | 0 => []
  | k + 1 => psum (pmulTo p q k) (pshf (ptim q (co p k)) k)
def pmul (p q : List Rat) : List Rat := pmulTo p q p.length
def horner : List Rat → Rat → Rat
  | [], _ => 0
  | a :: p, x => horner p x * x + a
theorem getD_range {α : Type} {n i : Nat} {f : Nat → α} {d : α} (h : i < n) : ((List.range n).map f).getD i d = f i := by simp [List.getD, h]
theorem co_addL (p q : List Rat) (i : Nat) : co (addL p q) i = co p i + co q i := by
  unfold addL
  by_cases h : i < max p.length q.length
  · unfold co; rw [getD_range h]
  · rw [co_out (by simp; omega), co_out (p := p) (by omega), co_out (p := q) (by omega), Rat.add_zero]
theorem co_subL (p q : List Rat) (i : Nat) : co (subL p q) i = co p i - co q i := by
  unfold subL
  by_cases h : i < max p.length q.length
  · unfold co; rw [getD_range h]
  · rw [co_out (by simp; omega), co_out (p := p) (by omega), co_out (p := q) (by omega)]; exact Rat.sub_self.symm
theorem co_mulL (p : List Rat) (a : Rat) (i : Nat) : co (mulL p a) i = co p i * a := by
  unfold mulL
  by_cases h : i < p.length
  · have h1 : p[i]? = some (p[i]) := by simp [h]
    rw [co_get h1, co_get (x := p[i] * a) (by rw [List.getElem?_map, h1]; rfl)]
  · rw [co_out (by simp; omega), co_out (p := p) (by omega), Rat.zero_mul]
theorem co_psum (p q : List Rat) (i : Nat) : co (psum p q) i = co p i + co q i := by rw [psum, co_trim, co_addL]
theorem co_psub (p q : List Rat) (i : Nat) : co (psub p q) i = co p i - co q i := by rw [psub, co_trim, co_subL]
theorem co_ptim (p : List Rat) (a : Rat) (i : Nat) : co (ptim p a) i = co p i * a := by rw [ptim, co_trim, co_mulL]
theorem co_pshf (p : List Rat) (n i : Nat) : co (pshf p n) i = if i < n then 0 else co p (i - n) := by
  unfold pshf
  by_cases h : p = []
  · subst h; rw [if_pos rfl, co_nil, co_nil]; split <;> rfl
  · rw [if_neg h]
    unfold co List.getD
    by_cases hi : i < n
    · rw [if_pos hi, List.getElem?_append_left (by simpa using hi)]
      simp [hi]
    · rw [if_neg hi, List.getElem?_append_right (by simpa using hi), List.length_replicate]
theorem trim_len_le : ∀ p : List Rat, (trim p).length ≤ p.length
  | [] => Nat.le_refl _
  | a :: p => by
    have := trim_len_le p
    unfold trim
    split
    · split <;> simp
    · simp; exact this
end RS
namespace RS
theorem addL_len (p q : List Rat) : (addL p q).length = max p.length q.length := by simp [addL]
theorem psum_len (p q : List Rat) : (psum p q).length ≤ max p.length q.length := by rw [← addL_len]; exact trim_len_le _
theorem subL_len (p q : List Rat) : (subL p q).length = max p.length q.length := by simp [subL]
theorem psub_len (p q : List Rat) : (psub p q).length ≤ max p.length q.length := by rw [← subL_len]; exact trim_len_le _
theorem ptim_len (p : List Rat) (a : Rat) : (ptim p a).length ≤ p.length := by
  have := trim_len_le (mulL p a)
  simpa [mulL, ptim] using this
theorem pshf_len (p : List Rat) (n : Nat) : (pshf p n).length ≤ n + p.length := by
  unfold pshf; split <;> simp
theorem pmulTo_len (p q : List Rat) : ∀ k, (pmulTo p q k).length ≤ k + q.length
  | 0 => by simp [pmulTo]
  | k + 1 => by
    have h1 := pmulTo_len p q k
    have h2 := psum_len (pmulTo p q k) (pshf (ptim q (co p k)) k)
    have h3 := pshf_len (ptim q (co p k)) k
    have h4 := ptim_len q (co p k)
    show (psum _ _).length ≤ _
    omega
theorem horner_drop {p : List Rat} {k : Nat} {a x : Rat} (h : p[k]? = some a) : horner (p.drop k) x = horner (p.drop (k + 1)) x * x + a := by
  have hk : k < p.length := (List.getElem?_eq_some_iff.mp h).1
  rw [List.drop_eq_getElem_cons hk]
  have : p[k] = a := (List.getElem?_eq_some_iff.mp h).2
  rw [this]; rfl
/-- a share: numbers and weights -/
abbrev Shr := List (Rat × Rat)
def mo (S : Shr) (k : Nat) : Rat := (S.map fun xw => xw.2 * xw.1 ^ k).sum
def moms (S : Shr) (n : Nat) : List Rat := (List.range (n + 1)).map (mo S)
def dot (p row : List Rat) : Rat := (List.zipWith (fun a b => a * b) p row).sum
end RS
namespace RS
def nxt (p q : List Rat) (a b : Rat) : List Rat := psub (psub (pshf p 1) (ptim p a)) (ptim q b)
/-- the k-th rung polynomial and the one ahead -/
def rgs (A B : List Rat) : Nat → List Rat × List Rat
  | 0 => ([1], [])
  | k + 1 => (nxt (rgs A B k).1 (rgs A B k).2 (co A k) (if k = 0 then 0 else co B (k - 1)), (rgs A B k).1)
def stp (W A B : List Rat) : List Rat := (List.range (1 + min W.length B.length)).map fun h => (if h = 0 then 0 else co W (h - 1)) + co W h * co A h + co W (h + 1) * co B h
def wss (t : Rat) (A B : List Rat) : Nat → List Rat
  | 0 => [t]
  | k + 1 => stp (wss t A B k) A B
/-- the values behind the heights below k -/
def stpTo (W A B : List Rat) (k h : Nat) : Rat := (if h = 0 then 0 else co W (h - 1)) + (if h < k then co W h * co A h else 0) + (if h + 1 < k then co W (h + 1) * co B h else 0)
structure NxOk (p q : List Rat) (a b : Rat) : Prop where
  fp : ∀ x ∈ p, Fz x
  fq : ∀ x ∈ q, Fz x
  fa : Fz a
  fb : Fz b
  lp : p.length ≤ 50
  lq : q.length ≤ 50
  h1 : ∀ i, Fz (co (pshf p 1) i)
  h2 : ∀ i, Fz (co p i * a)
  h3 : ∀ i, Fz (co (pshf p 1) i - co p i * a)
  h4 : ∀ i, Fz (co q i * b)
structure StOk (W A B : List Rat) : Prop where
  fW : ∀ i, Fz (co W i)
  fA : ∀ i, Fz (co A i)
  fB : ∀ i, Fz (co B i)
  h1 : ∀ i, Fz (co W i * co A i)
  h2 : ∀ i, Fz (co W (i + 1) * co B i)
  h3 : ∀ k h, Fz (stpTo W A B k h)
  lA : A.length ≤ B.length + 1
  lW : W.length ≤ B.length + 1
  l0 : 1 ≤ W.length
  lB : B.length ≤ 50
end RS
namespace RS
structure PoOk (p q : List Rat) : Prop where
  hp : ∀ i, Fz (co p i)
  hq : ∀ x ∈ q, Fz x
  hk : ∀ k i, k < p.length → Fz (co (pmulTo p q k) i)
  ht : ∀ k i, k < p.length → Fz (co (pshf (ptim q (co p k)) k) i)
  l1 : p.length ≤ 12
  l2 : q.length ≤ 12
structure SfOk (row p : List Rat) : Prop where
  h1 : ∀ x ∈ row, Fz x
  h2 : ∀ x ∈ p, Fz x
  h3 : ∀ x ∈ List.zipWith (fun a b => a * b) p row, Fz x
  h4 : ∀ k, Fz ((List.zipWith (fun a b => a * b) p row).take k).sum
  hz : p.length ≤ 1000
theorem pmul_len (p q : List Rat) : (pmul p q).length ≤ p.length + q.length := pmulTo_len p q p.length
structure LvOk (row p : List Rat) (n : Rat) : Prop where
  po : PoOk p p
  sf : SfOk row (pshf (pmul p p) 1)
  fn : Fz n
  n0 : n ≠ 0
  fs : Fz (dot (pshf (pmul p p) 1) row)
  le : (pshf (pmul p p) 1).length ≤ row.length
def Bk (Hk : Nat → Rat) (k : Nat) : Rat := if k = 0 then 0 else Hk k / Hk (k - 1)
def Qk (Pk : Nat → List Rat) (k : Nat) : List Rat := if k = 0 then [] else Pk (k - 1)
structure BtOk (row : List Rat) (Pk : Nat → List Rat) (Hk Ak : Nat → Rat) (m : Nat) (stop : Bool) : Prop where
  p0 : Pk 0 = [1]
  h0 : ∃ l, row = Hk 0 :: l
  fz : ∀ k, k ≤ m → Fz (Hk k)
  pos : ∀ k, k < m → 0 < Hk k
  last : if stop then 0 < Hk m else Hk m = 0
  lv : ∀ k, k < m ∨ (k = m ∧ stop = true) → LvOk row (Pk k) (Hk k) ∧ Ak k = dot (pshf (pmul (Pk k) (Pk k)) 1) row / Hk k
  go : ∀ k, k < m → 2 * (k + 1) < row.length
  fin : stop = true → row.length ≤ 2 * (m + 1)
  nx : ∀ k, k < m → NxOk (Pk k) (Qk Pk k) (Ak k) (Bk Hk k) ∧ Pk (k + 1) = nxt (Pk k) (Qk Pk k) (Ak k) (Bk Hk k)
  sq : ∀ k, k < m → PoOk (Pk (k + 1)) (Pk (k + 1)) ∧ SfOk row (pmul (Pk (k + 1)) (Pk (k + 1))) ∧ Hk (k + 1) = dot (pmul (Pk (k + 1)) (Pk (k + 1))) row
  lm : m ≤ 8
  lr : row.length ≤ 9
structure MfOk (row p : List Rat) : Prop where
  h : ∀ j, j + p.length ≤ row.length → SfOk row (pshf p j) ∧ dot (pshf p j) row = 0
  lp : p.length ≤ 12
  lr : row.length ≤ 9
  le : p.length ≤ row.length + 1
end RS

set_option Elab.async false
set_option linter.all false
set_option maxRecDepth 100000
set_option maxHeartbeats 4000000
/-! The defs of polynomials. -/
namespace RS
open PySem PySem.Spec PyProof.Rows L2
def pd (p : List Rat) : PyData := .tuple (p.map fr)
theorem nol_pd (p : List Rat) : nol (pd p) = true := by unfold pd; rw [nol]; exact nolAll_fr p
/-! ### equality, by data -/
def Flat (n : Nat) (d : PyData) : Prop := d.canLay0 = true ∧ d.depth ≤ n
theorem Flat.shaped {n : Nat} {d : PyData} (h : Flat n d) (hn : n ≤ 64 := by decide) : SeqAt.shaped d = true := by
  unfold SeqAt.shaped
  rw [h.1, Bool.true_and]
  exact decide_eq_true (Nat.le_trans h.2 hn)
theorem flat_all {n : Nat} : ∀ {ds : List PyData}, (∀ d ∈ ds, Flat n d) → PyData.canLayAll0 ds = true ∧ PyData.depthAll ds ≤ n
  | [], _ => ⟨by rw [PyData.canLayAll0], by rw [PyData.depthAll]; exact Nat.zero_le _⟩
  | d :: ds, h => by
    obtain ⟨a, b⟩ := flat_all fun x hx => h x (List.mem_cons_of_mem _ hx)
    obtain ⟨c, e⟩ := h d List.mem_cons_self
    exact ⟨by rw [PyData.canLayAll0, a, c]; rfl, by rw [PyData.depthAll]; omega⟩
theorem flat_tup {n : Nat} {ds : List PyData} (h : ∀ d ∈ ds, Flat n d) : Flat (n + 1) (.tuple ds) := by
  obtain ⟨a, b⟩ := flat_all h
  exact ⟨by rw [PyData.canLay0]; exact a, by rw [PyData.depth]; omega⟩
theorem flat_lst {n : Nat} {ds : List PyData} (h : ∀ d ∈ ds, Flat n d) : Flat (n + 1) (.list ds) := by
  obtain ⟨a, b⟩ := flat_all h
  exact ⟨by rw [PyData.canLay0]; exact a, by rw [PyData.depth]; omega⟩
theorem flat_int (n : Nat) (i : Int) : Flat n (.int i) := ⟨by rw [PyData.canLay0], by rw [PyData.depth]; exact Nat.zero_le _⟩
theorem flat_fr (r : Rat) : Flat 1 (fr r) := flat_tup fun d h => by
  rcases List.mem_cons.mp h with rfl | h
  · exact flat_int 0 _
  · rcases List.mem_cons.mp h with rfl | h
    · exact flat_int 0 _
    · cases h
theorem flat_mono {m n : Nat} {d : PyData} (h : Flat m d) (hn : m ≤ n) : Flat n d := ⟨h.1, Nat.le_trans h.2 hn⟩
theorem flat_pd (p : List Rat) : Flat 2 (pd p) := flat_tup fun d h => by
  obtain ⟨r, _, rfl⟩ := List.mem_map.mp h
  exact flat_fr r
theorem flat_frs (p : List Rat) : Flat 2 (.list (p.map fr)) := flat_lst fun d h => by
  obtain ⟨r, _, rfl⟩ := List.mem_map.mp h
  exact flat_fr r
theorem eqv_fr (r s : Rat) : PyData.eqv (fr r) (fr s) = decide (r = s) := by
  unfold fr
  simp only [PyData.eqv, PyData.eqvAll, Bool.and_true]
  by_cases h : r = s
  · subst h; simp
  · rw [decide_eq_false h]
    by_cases h1 : r.num = s.num
    · have h2 : ¬ (r.den = s.den) := fun e => h (Rat.ext h1 e)
      have h3 : ((r.den : Int) == (s.den : Int)) = false := by
        rw [beq_eq_false_iff_ne]; omega
      rw [h3, Bool.and_false]
    · have h3 : (r.num == s.num) = false := by rw [beq_eq_false_iff_ne]; exact h1
      rw [h3, Bool.false_and]
theorem eqvAll_map {α : Type} {f : α → PyData} [DecidableEq α] (h : ∀ a b, PyData.eqv (f a) (f b) = decide (a = b)) : ∀ l l' : List α, PyData.eqvAll (l.map f) (l'.map f) = decide (l = l')
  | [], [] => by simp [PyData.eqvAll]
  | [], b :: l' => by simp [PyData.eqvAll]
  | a :: l, [] => by simp [PyData.eqvAll]
  | a :: l, b :: l' => by
    rw [List.map_cons, List.map_cons, PyData.eqvAll, h, eqvAll_map h l l']
    by_cases h1 : a = b <;> by_cases h2 : l = l' <;> simp [h1, h2]
theorem eqv_pd (p q : List Rat) : PyData.eqv (pd p) (pd q) = decide (p = q) := by
  unfold pd
  rw [PyData.eqv]
  exact eqvAll_map eqv_fr p q
theorem eqv_frs (p q : List Rat) : PyData.eqv (.list (p.map fr)) (.list (q.map fr)) = decide (p = q) := by
  rw [PyData.eqv]
  exact eqvAll_map eqv_fr p q
section
variable {X : Cx} {H0 : Hp} {δ : List Sl} {a b : Expr} {k : Bool}
theorem ec_eqFr {r s : Rat} (hu : X.A.units + 64 < cLine) (ha : EV X H0 δ a (fr r)) (hb : EV X H0 δ b (fr s)) : EC X H0 δ .Eq a b (.bool (decide (r = s))) := by
  rw [← eqv_fr]; exact ec_eqD hu ha hb (flat_fr r).shaped (flat_fr s).shaped
theorem ec_neFr {r s : Rat} (hu : X.A.units + 64 < cLine) (ha : EV X H0 δ a (fr r)) (hb : EV X H0 δ b (fr s)) : EC X H0 δ .NotEq a b (.bool (!decide (r = s))) := by
  rw [← eqv_fr]; exact ec_neD hu ha hb (flat_fr r).shaped (flat_fr s).shaped
theorem ec_eqPd {r s : List Rat} (hu : X.A.units + 64 < cLine) (ha : EV X H0 δ a (pd r)) (hb : EV X H0 δ b (pd s)) : EC X H0 δ .Eq a b (.bool (decide (r = s))) := by
  rw [← eqv_pd]; exact ec_eqD hu ha hb (flat_pd r).shaped (flat_pd s).shaped
theorem ec_nePd {r s : List Rat} (hu : X.A.units + 64 < cLine) (ha : EV X H0 δ a (pd r)) (hb : EV X H0 δ b (pd s)) : EC X H0 δ .NotEq a b (.bool (!decide (r = s))) := by
  rw [← eqv_pd]; exact ec_neD hu ha hb (flat_pd r).shaped (flat_pd s).shaped
theorem ec_eqFs {r s : List Rat} (hu : X.A.units + 64 < cLine) (ha : EV X H0 δ a (.list (r.map fr))) (hb : EV X H0 δ b (.list (s.map fr))) : EC X H0 δ .Eq a b (.bool (decide (r = s))) := by
  rw [← eqv_frs]; exact ec_eqD hu ha hb (flat_frs r).shaped (flat_frs s).shaped
theorem ec_neFs {r s : List Rat} (hu : X.A.units + 64 < cLine) (ha : EV X H0 δ a (.list (r.map fr))) (hb : EV X H0 δ b (.list (s.map fr))) : EC X H0 δ .NotEq a b (.bool (!decide (r = s))) := by
  rw [← eqv_frs]; exact ec_neD hu ha hb (flat_frs r).shaped (flat_frs s).shaped
end
/-! slices of a tuple, of a list -/
section
variable {X : Cx} {H0 : Hp} {δ : List Sl} {e lo hi : Expr} {ds : List PyData} {p2 pos : Pos} {i j : Int}
def cutD (ds : List PyData) (lo hi : Option Int) : List PyData := (ds.drop (HT.sIx ds.length 0 lo)).take (HT.sIx ds.length ds.length hi - HT.sIx ds.length 0 lo)
theorem el_slLto (he : EV X H0 δ e (.list ds)) (hh : EV X H0 δ hi (.int j)) : EL X H0 δ (.Subscript e (.Slice none (some hi) none p2) pos) (cutD ds none (some j)) := fun σ H E Q q =>
  e_of (pe_slice sl_list c_e po_none (po_some c_e)) (he σ H E _ fun v H1 s1 h1 => hh σ H1 (E.mono s1) _ fun u H2 s2 h2 => by
    cases h1 with
    | lst q1 d1 =>
      cases h2
      exact ⟨_, rfl, _, _, rfl, s2.seq q1, fun p hp => q p _ _ ((s1.trans s2).trans (Same.new hp)) ((s1.trans s2).free hp) upd_same (cut_data _ _ _ _ (dpAll_same (s2.trans (Same.new hp)) _ _ d1))⟩)
theorem el_slLfrom (he : EV X H0 δ e (.list ds)) (hh : EV X H0 δ lo (.int j)) : EL X H0 δ (.Subscript e (.Slice (some lo) none none p2) pos) (cutD ds (some j) none) := fun σ H E Q q =>
  e_of (pe_slice sl_list c_e (po_some c_e) po_none) (he σ H E _ fun v H1 s1 h1 => hh σ H1 (E.mono s1) _ fun u H2 s2 h2 => by
    cases h1 with
    | lst q1 d1 =>
      cases h2
      exact ⟨_, rfl, _, _, rfl, s2.seq q1, fun p hp => q p _ _ ((s1.trans s2).trans (Same.new hp)) ((s1.trans s2).free hp) upd_same (cut_data _ _ _ _ (dpAll_same (s2.trans (Same.new hp)) _ _ d1))⟩)
theorem cut_whole {α : Type} {ds : List α} {lo hi : Option Int} (h : HT.sIx ds.length 0 lo = 0 ∧ HT.sIx ds.length ds.length hi = ds.length) : (ds.drop (HT.sIx ds.length 0 lo)).take (HT.sIx ds.length ds.length hi - HT.sIx ds.length 0 lo) = ds := by
  rw [h.1, h.2]; simp
theorem ev_slTto (he : EV X H0 δ e (.tuple ds)) (hh : EV X H0 δ hi (.int j)) : EV X H0 δ (.Subscript e (.Slice none (some hi) none p2) pos) (.tuple (cutD ds none (some j))) := fun σ H E Q q =>
  e_of (pe_slice sl_tupA c_e po_none (po_some c_e)) (he σ H E _ fun v H1 s1 h1 => hh σ H1 (E.mono s1) _ fun u H2 s2 h2 => by
    cases h1 with
    | tup q1 d1 =>
      cases h2
      refine ⟨_, rfl, _, _, rfl, sqT_same s2 q1, fun w => ?_, fun w p hp => ?_⟩
      · rw [dpAll_len d1] at w
        refine q _ _ (s1.trans s2) (.tup (sqT_same s2 q1) ?_)
        unfold cutD
        rw [cut_whole w]
        exact dpAll_same s2 _ _ d1
      · exact q _ _ ((s1.trans s2).trans (Same.new hp)) (.tup (SqT.of upd_same) (cut_data _ _ _ _ (dpAll_same (s2.trans (Same.new hp)) _ _ d1))))
theorem ev_slTfrom (he : EV X H0 δ e (.tuple ds)) (hh : EV X H0 δ lo (.int j)) : EV X H0 δ (.Subscript e (.Slice (some lo) none none p2) pos) (.tuple (cutD ds (some j) none)) := fun σ H E Q q =>
  e_of (pe_slice sl_tupA c_e (po_some c_e) po_none) (he σ H E _ fun v H1 s1 h1 => hh σ H1 (E.mono s1) _ fun u H2 s2 h2 => by
    cases h1 with
    | tup q1 d1 =>
      cases h2
      refine ⟨_, rfl, _, _, rfl, sqT_same s2 q1, fun w => ?_, fun w p hp => ?_⟩
      · rw [dpAll_len d1] at w
        refine q _ _ (s1.trans s2) (.tup (sqT_same s2 q1) ?_)
        unfold cutD
        rw [cut_whole w]
        exact dpAll_same s2 _ _ d1
      · exact q _ _ ((s1.trans s2).trans (Same.new hp)) (.tup (SqT.of upd_same) (cut_data _ _ _ _ (dpAll_same (s2.trans (Same.new hp)) _ _ d1))))
theorem ev_revT {k : Nat} {p1 p3 : Pos} (he : EV X H0 δ e (.tuple ds)) : EV X H0 δ (.Subscript e (.Slice none none (some (.UnaryOp .USub (.Constant (.int 1) k p1) p2)) p3) pos) (.tuple ds.reverse) := fun σ H E Q q =>
  e_of (pe_revT c_e) (he σ H E _ fun v H1 s1 h1 => by
    cases h1 with
    | tup q1 d1 => exact ⟨_, _, rfl, q1, fun p hp => q _ _ (s1.trans (Same.new hp)) (.tup (SqT.of upd_same) (dpAll_reverse (dpAll_same (Same.new hp) _ _ d1)))⟩)
theorem ev_repT {a b : Expr} (ha : EV X H0 δ a (.tuple ds)) (hb : EV X H0 δ b (.int i)) (h0 : ds ≠ []) (h1 : 0 ≤ i) (h2 : i ≤ 1000) (hz : ds.length ≤ 1000) : EV X H0 δ (.BinOp a .Mult b pos) (.tuple (List.replicate i.toNat ds).flatten) :=
  ev2 op_repA ha hb fun x y H g1 g2 Q q => by
    cases g1 with
    | tup q1 d1 =>
      cases g2
      have hne : ∀ vs : List V, DpAll X.K H vs ds → vs ≠ [] := fun vs d z => by
        subst z; cases d; exact h0 rfl
      have rep : ∀ {H' : Hp} {vs : List V} (n : Nat), DpAll X.K H' vs ds → DpAll X.K H' (List.replicate n vs).flatten (List.replicate n ds).flatten := by
        intro H' vs n d
        induction n with
        | zero => exact .nil
        | succ n ih => rw [List.replicate_succ, List.replicate_succ, List.flatten_cons, List.flatten_cons]; exact dpAll_append d ih
      refine ⟨_, i, _, rfl, rfl, q1, hne _ d1, h1, h2, by rw [dpAll_len d1]; exact hz, fun e => ?_, fun e p hp => ?_⟩
      · subst e
        refine q _ _ (Same.refl H) (.tup q1 ?_)
        simpa using d1
      · exact q _ _ (Same.new hp) (.tup (SqT.of upd_same) (rep _ (dpAll_same (Same.new hp) _ _ d1)))
end
section
variable {P : Program} {w : World} {K : PySem.W.Frag} {mg : Str → Option Value} {base : Heap}
inductive R_are_fractions : List PyData → PyData → Prop
  | mk (l : List Rat) (n : Int) (h : (l.length : Int) ≤ n) (hz : l.length ≤ 100) : R_are_fractions [.tuple (l.map fr), .int n] (.bool true)
theorem len_map_fr {l : List Rat} {f : Rat → PyData} : (l.map f).length = l.length := List.length_map ..
theorem ok_are_fractions (T : Tx K mg) : Fn P w K mg base "are_fractions" ["thing", "most"] 3 (spD K R_are_fractions) :=
  Fn.ofD T.d_are_fractions sc_are_fractions bd_are_fractions (fun _ _ h => by cases h; rfl) fun f cdv A outer s H E ds d hr hR => by
    cases hR with
    | mk l n hn hz =>
      refine ss_one (s1_ret (ev_andT ?_ (ev_andT ?_ (ev_one ?_))) rfl)
      · exact ev_isi T.b_isinstance T.b_tuple hv_tuple (ev_var 0) (by exact kib_tt)
      · exact ev_cmpE (ec_le (ev_lenT T.b_len (ev_var 0)) (ev_var 1)) (by rw [len_map_fr]; simp [hn])
      · refine EV.is (ev_all (bs := l.map fun _ => true) rfl T.b_all (EL.ev (el_lcN 2 sc_are_fractions.nd rfl rfl (it_tup (ds := l.map fr) (ev_var 0) stays_c) ?_ ?_ _ ?_ ?_ ?_ ?_))) (by rw [all_true])
        · exact blkOk_by (N := N_are_fractions) (sc := defScope s_are_fractions) (by decide +kernel)
        · exact fun _ _ _ _ _ => pg_name sc_are_fractions.nd rfl (Or.inl rfl)
        · simp
        · exact nolAll_bool _
        · rw [len_map_fr]; omega
        · intro k d e h1 h2 s Hb C cl fp
          rw [List.map_map] at h2
          obtain ⟨r, _, rfl, rfl⟩ := map_two h1 h2
          exact ev_call (ok_is_fraction T) (hr.mono (by decide)) (ea_cons (ev_var 2) ea_nil) (.mk r)
inductive R_is_poly : List PyData → PyData → Prop
  | mk (p : List Rat) (h : Pol p) (hz : p.length ≤ 12) : R_is_poly [pd p] (.bool true)
theorem atI_m1 {α : Type} {l : List α} {x : α} (h : l.getLast? = some x) : atI l (-1) = some x := by
  obtain ⟨ys, rfl⟩ := List.getLast?_eq_some_iff.mp h
  exact atI_last ys x
theorem ok_is_poly (T : Tx K mg) : Fn P w K mg base "is_poly" ["thing"] 4 (spD K R_is_poly) :=
  Fn.ofD T.d_is_poly sc_is_poly bd_is_poly (fun _ _ h => by cases h; rfl) fun f cdv A outer s H E ds d hr hR => by
    cases hR with
    | mk p hp hz =>
      obtain ⟨t, ht⟩ := T.c_MOST_PARTS
      obtain ⟨aN, mN, dN⟩ := T.c_NOUGHT
      refine ss_one (s1_ret (ev_andT (ev_call (ok_are_fractions T) (hr.mono (by decide)) (ea_cons (ev_var 0) (ea_cons (ev_cstI ht) ea_nil)) (.mk p 12 (by omega) (by omega))) (ev_one ?_)) rfl)
      by_cases h : p = []
      · exact ev_orT (ev_cmpE (ec_eqPd (r := p) (s := []) hr.units (ev_var 0) (ev_tup ea_nil)) (by simp [h]))
      · refine ev_orF (ev_cmpE (ec_eqPd (r := p) (s := []) hr.units (ev_var 0) (ev_tup ea_nil)) (by simp [h])) (ev_one ?_)
        rcases hp with e | ⟨x, e, hx⟩
        · exact absurd e h
        · exact ev_cmpE (ec_neFr (r := x) (s := 0) hr.units (ev_ixT (ds := p.map fr) (ev_var 0) (ev_neg ev_int) (atI_m1 (by rw [List.getLast?_map, e]; rfl))) (ev_cst mN dN)) (by simp [hx])
inductive R_need_poly : List PyData → PyData → Prop
  | mk (p : List Rat) (h : Pol p) (hz : p.length ≤ 12) : R_need_poly [pd p] (pd p)
theorem ok_need_poly (T : Tx K mg) : Fn P w K mg base "need_poly" ["thing"] 5 (spD K R_need_poly) :=
  Fn.ofD T.d_need_poly sc_need_poly bd_need_poly (fun _ _ h => by cases h; rfl) fun f cdv A outer s H E ds d hr hR => by
    cases hR with
    | mk p hp hz =>
      refine ss_cons (s1_ifF (et_notT (et_val (ev_call (ok_is_poly T) (hr.mono (by decide)) (ea_cons (ev_var 0) ea_nil) (.mk p hp hz)))) (ss_nil ?_))
      exact ss_one (s1_ret (ev_var 0) rfl)
end
end RS

set_option Elab.async false
set_option linter.all false
set_option maxRecDepth 100000
set_option maxHeartbeats 4000000
/-! The defs of polynomials, second part. -/
namespace RS
open PySem PySem.Spec PyProof.Rows L2
theorem pdl (p : List Rat) : (p.map fr).length = p.length := List.length_map ..
theorem map_fr_get {p : List Rat} {i : Nat} {x : Rat} (h : p[i]? = some x) : (p.map fr)[i]? = some (fr x) := by rw [List.getElem?_map, h]; rfl
theorem ixN_nat {n j : Nat} (h : j < n) : ixN n (j : Int) = some j := by
  unfold ixN
  rw [if_pos (by omega), if_pos (by omega)]
  simp
theorem sIx_n {n d k : Nat} : HT.sIx n d (some (k : Int)) = min k n := HT.sIx_nat n d k
theorem cutD_to (ds : List PyData) (k : Nat) : cutD ds none (some (k : Int)) = ds.take k := by
  unfold cutD
  rw [sIx_n, HT.sIx_none, List.drop_zero, Nat.sub_zero]
  by_cases h : k ≤ ds.length
  · rw [Nat.min_eq_left h]
  · rw [Nat.min_eq_right (by omega), List.take_of_length_le (Nat.le_refl _), List.take_of_length_le (by omega)]
theorem cutD_from (ds : List PyData) (k : Nat) : cutD ds (some (k : Int)) none = ds.drop k := by
  unfold cutD
  rw [sIx_n, HT.sIx_none]
  by_cases h : k ≤ ds.length
  · rw [Nat.min_eq_left h, List.take_of_length_le (by simp)]
  · rw [Nat.min_eq_right (by omega), List.drop_eq_nil_of_le (Nat.le_refl _), List.drop_eq_nil_of_le (by omega)]; simp
theorem cutD_m1 (ds : List PyData) : cutD ds none (some (-1)) = ds.dropLast := by
  unfold cutD
  rw [HT.sIx_none, List.drop_zero, Nat.sub_zero, List.dropLast_eq_take]
  congr 1
  show (if (-1 : Int) < 0 then ((-1 : Int) + (ds.length : Int)).toNat else min (-1 : Int).toNat ds.length) = ds.length - 1
  rw [if_pos (by decide)]
  omega
section
variable {P : Program} {w : World} {K : PySem.W.Frag} {mg : Str → Option Value} {base : Heap}
inductive R_trimmed : List PyData → PyData → Prop
  | mk (l : List Rat) : R_trimmed [.list (l.map fr)] (pd (trim l))
theorem ok_trimmed (T : Tx K mg) : Fn P w K mg base "trimmed" ["some"] 1 (spD K R_trimmed) :=
  Fn.ofD T.d_trimmed sc_trimmed bd_trimmed (fun _ _ h => by cases h; rfl) fun f cdv A outer s H E ds d hr hR => by
    cases hR with
    | mk l =>
      obtain ⟨aN, mN, dN⟩ := T.c_NOUGHT
      refine ss_cons (s1_set 1 sc_trimmed.nd (ev_lenL T.b_len (ev_var 0)) ?_)
      refine ss_cons (s1_while PassesOwn.never (fun m δ => δ = [.arg (.list (l.map fr)), .dat (.int (m : Int))] ∧ m ≤ l.length ∧ ∀ x ∈ l.drop m, x = 0) l.length ⟨by rw [pdl]; rfl, Nat.le_refl _, by simp⟩ ?_)
      rintro m δ ⟨rfl, hm, hz⟩
      have fin : (m = 0 ∨ ∃ x, l[m - 1]? = some x ∧ x ≠ 0) → SS (cx0 P w K mg base N_trimmed "trimmed" s_trimmed f cdv A outer s H E) H [.arg (.list (l.map fr)), .dat (.int (m : Int))] ((defBody s_trimmed).drop 2) { nx := fun _ => pd (trim l) = .none, rt := fun d' => d' = pd (trim l) } := by
        intro hx
        refine ss_one (s1_ret (ev_tupL T.b_tuple (EL.ev (el_slLto (ev_var 0) (ev_var 1)))) ?_)
        show PyData.tuple (cutD (l.map fr) none (some (m : Int))) = pd (trim l)
        rw [cutD_to, trim_take l m hm hz hx, pd, List.map_take]
      by_cases h0 : m = 0
      · exact ⟨false, et_w (ew_andF (et_cmpE (ec_gt (ev_var 1) ev_int) (by simp [h0]))), fun hb => (nomatch hb), fun _ => fin (.inl h0)⟩
      · obtain ⟨x, hx⟩ : ∃ x, l[m - 1]? = some x := there (by omega)
        refine ⟨decide (x = 0), et_w (ew_andT (et_cmpE (ec_gt (ev_var 1) ev_int) (by simp; omega)) (ew_and1 (et_cmp (ec_eqFr (r := x) (s := 0) hr.units (ev_ixL (ds := l.map fr) (i := ((m - 1 : Nat) : Int)) (ev_var 0) (EV.is (ev_sub (ev_var 1) ev_int) (by congr 1; omega)) (atI_nat (map_fr_get hx))) (ev_cst mN dN))))), fun hb => ?_, fun hb => fin (.inr ⟨x, hx, of_decide_eq_false hb⟩)⟩
        have hx0 : x = 0 := of_decide_eq_true hb
        refine ⟨fun δ => δ = [.arg (.list (l.map fr)), .dat (.int ((m - 1 : Nat) : Int))], fun δ e => ⟨m - 1, by omega, e, by omega, fun y hy => ?_⟩, ?_⟩
        · have e1 : l.drop (m - 1) = x :: l.drop m := by
            rw [List.drop_eq_getElem_cons (by omega)]
            have : l[m - 1] = x := by
              rw [List.getElem?_eq_getElem (by omega)] at hx
              exact Option.some.inj hx
            rw [this, show m - 1 + 1 = m by omega]
          rw [e1] at hy
          rcases List.mem_cons.mp hy with rfl | hy
          · exact hx0
          · exact hz y hy
        · refine ss_one (s1_augI 1 sc_trimmed.nd ip_sub ev_int ?_)
          show [Sl.arg (.list (l.map fr)), Sl.dat (.int ((m : Int) - 1))] = _
          rw [show ((m - 1 : Nat) : Int) = (m : Int) - 1 by omega]
inductive R_part_of : List PyData → PyData → Prop
  | mk (p : List Rat) (n : Nat) : R_part_of [pd p, .int (n : Int)] (fr (co p n))
theorem ok_part_of (T : Tx K mg) : Fn P w K mg base "part_of" ["poly", "number"] 1 (spD K R_part_of) :=
  Fn.ofD T.d_part_of sc_part_of bd_part_of (fun _ _ h => by cases h; rfl) fun f cdv A outer s H E ds d hr hR => by
    cases hR with
    | mk p n =>
      obtain ⟨aN, mN, dN⟩ := T.c_NOUGHT
      refine ss_one (s1_ret (ev_if (et_cmp (ec_lt (ev_var 1) (ev_lenT (ds := p.map fr) T.b_len (ev_var 0)))) (fun h => ?_) fun h => ?_) rfl)
      · have hn : n < p.length := by
          have := of_decide_eq_true h
          rw [pdl] at this; omega
        obtain ⟨x, hx⟩ := there hn
        refine EV.is (ev_ixT (ds := p.map fr) (ev_var 0) (ev_var 1) (atI_nat (map_fr_get hx))) (by rw [co_get hx])
      · have hn : p.length ≤ n := by
          have := of_decide_eq_false h
          rw [pdl] at this; omega
        exact EV.is (ev_cst mN dN) (by rw [co_out hn])
theorem frs_len (n : Nat) (f : Nat → Rat) : (((List.range n).map f).map fr).length = (rangeD n).length := by simp [rangeD]
theorem frs_get {n k : Nat} {f : Nat → Rat} {d e : PyData} (h : (rangeD n)[k]? = some d) (h' : (((List.range n).map f).map fr)[k]? = some e) : d = .int (k : Int) ∧ e = fr (f k) := by
  have hk : k < n := by
    have := (List.getElem?_eq_some_iff.mp h).1
    rwa [rangeD_len] at this
  rw [rangeD_get hk] at h
  simp [hk] at h'
  exact ⟨(Option.some.inj h).symm, h'.symm⟩
inductive R_sum_of : List PyData → PyData → Prop
  | mk (p q : List Rat) (hp : ∀ i, Fz (co p i)) (hq : ∀ i, Fz (co q i)) (h1 : p.length ≤ 1000) (h2 : q.length ≤ 1000) : R_sum_of [pd p, pd q] (pd (psum p q))
inductive R_less_of : List PyData → PyData → Prop
  | mk (p q : List Rat) (hp : ∀ i, Fz (co p i)) (hq : ∀ i, Fz (co q i)) (h1 : p.length ≤ 1000) (h2 : q.length ≤ 1000) : R_less_of [pd p, pd q] (pd (psub p q))
theorem ok_sum_of (T : Tx K mg) : Fn P w K mg base "sum_of" ["one", "other"] 4 (spD K R_sum_of) :=
  Fn.ofD T.d_sum_of sc_sum_of bd_sum_of (fun _ _ h => by cases h; rfl) fun f cdv A outer s H E ds d hr hR => by
    cases hR with
    | mk p q hp hq h1 h2 =>
      refine ss_one (s1_ret (ev_call (ok_trimmed T) (hr.mono (by decide)) (ea_cons (EL.ev (ds := (addL p q).map fr) (el_lcN 2 sc_sum_of.nd rfl rfl (it_range (max p.length q.length) T.b_range (EV.is (ev_max rfl T.b_max (ev_lenT (ds := p.map fr) T.b_len (ev_var 0)) (ev_lenT (ds := q.map fr) T.b_len (ev_var 1))) ?_) ?_) ?_ ?_ _ ?_ ?_ ?_ ?_)) ea_nil) (.mk (addL p q))) rfl)
      · rw [pdl, pdl]; congr 1; omega
      · exact Nat.lt_of_le_of_lt (show max p.length q.length ≤ 1000 by omega) (by decide)
      · exact blkOk_by (N := N_sum_of) (sc := defScope s_sum_of) (by decide +kernel)
      · exact fun _ _ _ _ _ => pg_name sc_sum_of.nd rfl (Or.inl rfl)
      · exact frs_len _ _
      · exact nolAll_fr _
      · rw [rangeD_len]; omega
      · intro k d e g1 g2 s Hb C cl fp
        obtain ⟨rfl, rfl⟩ := frs_get g1 g2
        exact ev_call (ok_add T) (hr.mono (by decide)) (ea_cons (ev_call (ok_part_of T) (hr.mono (by decide)) (ea_cons (ev_var 0) (ea_cons (ev_var 2) ea_nil)) (.mk p k)) (ea_cons (ev_call (ok_part_of T) (hr.mono (by decide)) (ea_cons (ev_var 1) (ea_cons (ev_var 2) ea_nil)) (.mk q k)) ea_nil)) (.mk _ _ (hp k) (hq k))
theorem ok_less_of (T : Tx K mg) : Fn P w K mg base "less_of" ["one", "other"] 4 (spD K R_less_of) :=
  Fn.ofD T.d_less_of sc_less_of bd_less_of (fun _ _ h => by cases h; rfl) fun f cdv A outer s H E ds d hr hR => by
    cases hR with
    | mk p q hp hq h1 h2 =>
      refine ss_one (s1_ret (ev_call (ok_trimmed T) (hr.mono (by decide)) (ea_cons (EL.ev (ds := (subL p q).map fr) (el_lcN 2 sc_less_of.nd rfl rfl (it_range (max p.length q.length) T.b_range (EV.is (ev_max rfl T.b_max (ev_lenT (ds := p.map fr) T.b_len (ev_var 0)) (ev_lenT (ds := q.map fr) T.b_len (ev_var 1))) ?_) ?_) ?_ ?_ _ ?_ ?_ ?_ ?_)) ea_nil) (.mk (subL p q))) rfl)
      · rw [pdl, pdl]; congr 1; omega
      · exact Nat.lt_of_le_of_lt (show max p.length q.length ≤ 1000 by omega) (by decide)
      · exact blkOk_by (N := N_less_of) (sc := defScope s_less_of) (by decide +kernel)
      · exact fun _ _ _ _ _ => pg_name sc_less_of.nd rfl (Or.inl rfl)
      · exact frs_len _ _
      · exact nolAll_fr _
      · rw [rangeD_len]; omega
      · intro k d e g1 g2 s Hb C cl fp
        obtain ⟨rfl, rfl⟩ := frs_get g1 g2
        exact ev_call (ok_sub T) (hr.mono (by decide)) (ea_cons (ev_call (ok_part_of T) (hr.mono (by decide)) (ea_cons (ev_var 0) (ea_cons (ev_var 2) ea_nil)) (.mk p k)) (ea_cons (ev_call (ok_part_of T) (hr.mono (by decide)) (ea_cons (ev_var 1) (ea_cons (ev_var 2) ea_nil)) (.mk q k)) ea_nil)) (.mk _ _ (hp k) (hq k))
inductive R_times_of : List PyData → PyData → Prop
  | mk (p : List Rat) (a : Rat) (hp : ∀ x ∈ p, Fz x) (ha : Fz a) (h1 : p.length ≤ 1000) : R_times_of [pd p, fr a] (pd (ptim p a))
theorem ok_times_of (T : Tx K mg) : Fn P w K mg base "times_of" ["poly", "number"] 4 (spD K R_times_of) :=
  Fn.ofD T.d_times_of sc_times_of bd_times_of (fun _ _ h => by cases h; rfl) fun f cdv A outer s H E ds d hr hR => by
    cases hR with
    | mk p a hp ha h1 =>
      refine ss_one (s1_ret (ev_call (ok_trimmed T) (hr.mono (by decide)) (ea_cons (EL.ev (ds := (mulL p a).map fr) (el_lcN 2 sc_times_of.nd rfl rfl (it_tup (ds := p.map fr) (ev_var 0) stays_c) ?_ ?_ _ ?_ ?_ ?_ ?_)) ea_nil) (.mk (mulL p a))) rfl)
      · exact blkOk_by (N := N_times_of) (sc := defScope s_times_of) (by decide +kernel)
      · exact fun _ _ _ _ _ => pg_name sc_times_of.nd rfl (Or.inl rfl)
      · simp [mulL]
      · exact nolAll_fr _
      · rw [pdl]; omega
      · intro k d e g1 g2 s Hb C cl fp
        rw [mulL, List.map_map] at g2
        obtain ⟨x, hx, rfl, rfl⟩ := map_two g1 g2
        exact ev_call (ok_mul T) (hr.mono (by decide)) (ea_cons (ev_var 2) (ea_cons (ev_var 1) ea_nil)) (.mk _ _ (hp x hx) ha)
inductive R_raised_of : List PyData → PyData → Prop
  | mk (p : List Rat) (n : Nat) (hn : n ≤ 100) (hp : p.length ≤ 100) : R_raised_of [pd p, .int (n : Int)] (pd (pshf p n))
theorem rep_fr (n : Nat) : (List.replicate n [fr 0]).flatten = (List.replicate n (0 : Rat)).map fr := by
  induction n with
  | zero => rfl
  | succ n ih => rw [List.replicate_succ, List.replicate_succ, List.flatten_cons, ih]; rfl
theorem ok_raised_of (T : Tx K mg) : Fn P w K mg base "raised_of" ["poly", "number"] 1 (spD K R_raised_of) :=
  Fn.ofD T.d_raised_of sc_raised_of bd_raised_of (fun _ _ h => by cases h; rfl) fun f cdv A outer s H E ds d hr hR => by
    cases hR with
    | mk p n hn hp =>
      obtain ⟨aN, mN, dN⟩ := T.c_NOUGHT
      refine ss_one (s1_ret (ev_if (et_cmp (ec_nePd (r := p) (s := []) hr.units (ev_var 0) (ev_tup ea_nil))) (fun h => ?_) fun h => ?_) rfl)
      · have hne : p ≠ [] := by simpa using h
        refine EV.is (ev_catT (ev_repT (ds := [fr 0]) (ev_tup (ea_cons (ev_cst mN dN) ea_nil)) (ev_var 1) (by simp) (by omega) (by omega) (by decide)) (ev_var 0) ?_) ?_
        · simp; omega
        · rw [pd, pshf, if_neg hne, Int.toNat_natCast, rep_fr, List.map_append]
      · have he : p = [] := by simpa using h
        exact EV.is (ev_tup ea_nil) (by rw [he]; rfl)
end
end RS

set_option Elab.async false
set_option linter.all false
set_option maxRecDepth 100000
set_option maxHeartbeats 4000000
/-! Products, worths, rows. -/
namespace RS
open PySem PySem.Spec PyProof.Rows L2
section
variable {X : Cx} {H0 : Hp} {δ : List Sl} {a b c : Expr} {pos : Pos} {k : Bool} {x y z : Int}
theorem et_chain {op op' : CmpOp} {f g : Int → Int → Bool} (ho : OpR X (compareOp op) (rI0 fun i j => .bl (f i j))) (ho' : OpR X (compareOp op') (rI0 fun i j => .bl (g i j))) (ha : EV X H0 δ a (.int x)) (hb : EV X H0 δ b (.int y)) (hc : EV X H0 δ c (.int z)) (e : (f x y && g y z) = k)
    (hm : lastMarks [op, op'] [b, c] = false := by with_unfolding_all rfl) : ET X H0 δ (.Compare a [op, op'] [b, c] pos) k := fun σ H E Q q =>
  t_of (pt_chain ho ho' c_e c_e c_e hm) (ha σ H E _ fun v1 H1 s1 h1 => hb σ H1 (E.mono s1) _ fun v2 H2 s2 h2 => by
    cases h1; cases h2
    refine ⟨_, _, rfl, rfl, f x y, rfl, ?_⟩
    cases hf : f x y with
    | false =>
      rw [if_neg Bool.false_ne_true]
      rw [hf, Bool.false_and] at e
      subst e
      exact ⟨false, rfl, q H2 (s1.trans s2)⟩
    | true =>
      rw [if_pos rfl]
      rw [hf, Bool.true_and] at e
      subst e
      refine hc σ H2 (E.mono (s1.trans s2)) _ fun v3 H3 s3 h3 => ?_
      cases h3
      exact ⟨_, _, rfl, rfl, _, rfl, q H3 ((s1.trans s2).trans s3)⟩)
end
theorem zipD_inv : ∀ {ds es : List PyData} {i : Nat} {d : PyData}, (zipD ds es)[i]? = some d → ∃ a b, ds[i]? = some a ∧ es[i]? = some b ∧ d = .tuple [a, b]
  | [], _, _, _, h => by simp [zipD] at h
  | _ :: _, [], _, _, h => by simp [zipD] at h
  | a :: ds, b :: es, 0, d, h => ⟨a, b, rfl, rfl, by simpa [zipD] using h.symm⟩
  | a :: ds, b :: es, i + 1, d, h => by
    obtain ⟨x, y, h1, h2, h3⟩ := zipD_inv (ds := ds) (es := es) (i := i) (d := d) (by simpa [zipD] using h)
    exact ⟨x, y, by simpa using h1, by simpa using h2, h3⟩
theorem enumD_inv {ds : List PyData} {i : Nat} {d : PyData} (h : (enumD ds)[i]? = some d) : ∃ a, ds[i]? = some a ∧ d = .tuple [.int (i : Int), a] := by
  have hi : i < ds.length := by
    have := (List.getElem?_eq_some_iff.mp h).1
    rwa [enumD_len] at this
  obtain ⟨a, ha⟩ := there hi
  rw [enumD_get ha] at h
  exact ⟨a, ha, (Option.some.inj h).symm⟩
def pr (xw : Rat × Rat) : PyData := pd [xw.1, xw.2]
def sd (S : Shr) : PyData := .tuple (S.map pr)
theorem nol_pr (xw : Rat × Rat) : nol (pr xw) = true := nol_pd _
theorem nol_sd (S : Shr) : nol (sd S) = true := by unfold sd; rw [nol]; exact nolAll_map nol_pr S
theorem true_get {n k : Nat} {e : PyData} (h : ((List.replicate n true).map PyData.bool)[k]? = some e) : e = .bool true := by
  obtain ⟨b, hb, rfl⟩ := map_one h
  rw [List.getElem?_replicate] at hb
  split at hb
  · rw [← Option.some.inj hb]
  · cases hb
theorem all_rep (n : Nat) : (List.replicate n true).all id = true := by induction n <;> simp_all
theorem keep_arg (d : PyData) : (Sl.arg d).keep = true := rfl
theorem keep_own (d : List PyData) : (Sl.own d).keep = true := rfl
theorem keep_non : Sl.non.keep = true := rfl
theorem keep_int (i : Int) : (Sl.dat (.int i)).keep = true := rfl
theorem keep_fr (r : Rat) : (Sl.dat (fr r)).keep = true := rfl
theorem keep_pd (r : List Rat) : (Sl.dat (pd r)).keep = true := nol_pd r
section
variable {P : Program} {w : World} {K : PySem.W.Frag} {mg : Str → Option Value} {base : Heap}
inductive R_product_of : List PyData → PyData → Prop
  | mk (p q : List Rat) (hp : ∀ i, Fz (co p i)) (hq : ∀ x ∈ q, Fz x) (hk : ∀ k i, k < p.length → Fz (co (pmulTo p q k) i)) (ht : ∀ k i, k < p.length → Fz (co (pshf (ptim q (co p k)) k) i)) (h1 : p.length ≤ 50) (h2 : q.length ≤ 50) : R_product_of [pd p, pd q] (pd (pmul p q))
theorem ok_product_of (T : Tx K mg) : Fn P w K mg base "product_of" ["one", "other"] 5 (spD K R_product_of) :=
  Fn.ofD T.d_product_of sc_product_of bd_product_of (fun _ _ h => by cases h; rfl) fun f cdv A outer s H E ds d hr hR => by
    cases hR with
    | mk p q hp hq hk ht h1 h2 =>
      refine ss_cons (s1_set 2 sc_product_of.nd (ev_tup ea_nil) ?_)
      refine ss_cons (s1_forT 3 4 sc_product_of.nd PassesOwn.never rfl (it_enumT (ds := p.map fr) T.b_enumerate (ev_var 0) (stays_l (nolAll_fr p))) (fun k δ => ∃ x y, δ = [.arg (pd p), .arg (pd q), .dat (pd (pmulTo p q k)), x, y]) ⟨_, _, rfl⟩ ?_ ?_ (pg_tup rfl (pgs_cons (pg_name sc_product_of.nd rfl (Or.inl rfl)) (pgs_cons (pg_name sc_product_of.nd rfl (Or.inl rfl)) pgs_nil))))
      · rintro k d δ hd ⟨x, y, rfl⟩
        obtain ⟨a, ha, rfl⟩ := enumD_inv hd
        obtain ⟨r, hr', rfl⟩ := map_one ha
        have hkl : k < p.length := (List.getElem?_eq_some_iff.mp hr').1
        have hco : co p k = r := co_get hr'
        refine ⟨_, _, rfl, ?_⟩
        refine ss_one (s1_set 2 sc_product_of.nd (ev_call (ok_sum_of T) (hr.mono (by decide)) (ea_cons (ev_var 2) (ea_cons (ev_call (ok_raised_of T) (hr.mono (by decide)) (ea_cons (ev_call (ok_times_of T) (hr.mono (by decide)) (ea_cons (ev_var 1) (ea_cons (ev_var 4) ea_nil)) (.mk q r hq (hco ▸ hp k) (by omega))) (ea_cons (ev_var 3) ea_nil)) (.mk _ k (by omega) ?_)) ea_nil)) (.mk _ _ (fun i => hk k i hkl) ?_ ?_ ?_)) ?_)
        · have := ptim_len q r; omega
        · intro i; rw [← hco]; exact ht k i hkl
        · have := pmulTo_len p q k; omega
        · have := pshf_len (ptim q r) k; have := ptim_len q r; omega
        · exact ⟨_, _, by rw [← hco]; rfl⟩
      · rintro δ ⟨x, y, rfl⟩
        rw [enumD_len, pdl]
        exact ss_one (s1_ret (ev_var 2) rfl)
inductive R_worth_of : List PyData → PyData → Prop
  | mk (p : List Rat) (x : Rat) (hx : Fz x) (hp : ∀ a ∈ p, Fz a) (h1 : ∀ k, Fz (horner (p.drop k) x)) (h2 : ∀ k, Fz (horner (p.drop k) x * x)) : R_worth_of [pd p, fr x] (fr (horner p x))
theorem ok_worth_of (T : Tx K mg) : Fn P w K mg base "worth_of" ["poly", "mark"] 4 (spD K R_worth_of) :=
  Fn.ofD T.d_worth_of sc_worth_of bd_worth_of (fun _ _ h => by cases h; rfl) fun f cdv A outer s H E ds d hr hR => by
    cases hR with
    | mk p x hx hp h1 h2 =>
      obtain ⟨aN, mN, dN⟩ := T.c_NOUGHT
      refine ss_cons (s1_set 2 sc_worth_of.nd (ev_cst mN dN) ?_)
      refine ss_cons (s1_forN 3 sc_worth_of.nd PassesOwn.never rfl (it_tup (ds := p.reverse.map fr) (EV.is (ev_revT (ds := p.map fr) (ev_var 0)) (by rw [List.map_reverse])) (stays_l (nolAll_fr _))) (fun k δ => k ≤ p.length ∧ ∃ y, δ = [.arg (pd p), .arg (fr x), .dat (fr (horner (p.drop (p.length - k)) x)), y]) ⟨Nat.zero_le _, _, by simp [horner]; rfl⟩ ?_ ?_)
      · rintro k d δ hd ⟨hk, y, rfl⟩
        obtain ⟨a, ha, rfl⟩ := map_one hd
        have hkl : k < p.length := by
          have := (List.getElem?_eq_some_iff.mp ha).1
          simpa using this
        rw [List.getElem?_reverse hkl] at ha
        refine ss_one (s1_set 2 sc_worth_of.nd (ev_call (ok_add T) (hr.mono (by decide)) (ea_cons (ev_call (ok_mul T) (hr.mono (by decide)) (ea_cons (ev_var 2) (ea_cons (ev_var 1) ea_nil)) (.mk _ _ (h1 _) hx)) (ea_cons (ev_var 3) ea_nil)) (.mk _ _ (h2 _) (hp a (List.mem_of_getElem? ha)))) ?_)
        refine ⟨hkl, .dat (fr a), ?_⟩
        have e := horner_drop (x := x) ha
        rw [show p.length - 1 - k + 1 = p.length - k by omega] at e
        rw [show p.length - (k + 1) = p.length - 1 - k by omega, e]
        rfl
      · rintro δ ⟨hk, y, rfl⟩
        refine ss_one (s1_ret (ev_var 2) ?_)
        show _ = fr (horner p x)
        simp
inductive R_worth_at : List PyData → PyData → Prop
  | mk (p : List Rat) (x : Rat) (hP : Pol p) (hz : p.length ≤ 12) (hx : Fz x) (hp : ∀ a ∈ p, Fz a) (h1 : ∀ k, Fz (horner (p.drop k) x)) (h2 : ∀ k, Fz (horner (p.drop k) x * x)) : R_worth_at [pd p, fr x] (fr (horner p x))
theorem ok_worth_at (T : Tx K mg) : Fn P w K mg base "worth_at" ["poly", "mark"] 6 (spD K R_worth_at) :=
  Fn.ofD T.d_worth_at sc_worth_at bd_worth_at (fun _ _ h => by cases h; rfl) fun f cdv A outer s H E ds d hr hR => by
    cases hR with
    | mk p x hP hz hx hp h1 h2 =>
      exact ss_one (s1_ret (ev_call (ok_worth_of T) (hr.mono (by decide)) (ea_cons (ev_call (ok_need_poly T) (hr.mono (by decide)) (ea_cons (ev_var 0) ea_nil) (.mk p hP hz)) (ea_cons (ev_call (ok_need_fraction T) (hr.mono (by decide)) (ea_cons (ev_var 1) ea_nil) (.mk x)) ea_nil)) (.mk p x hx hp h1 h2)) rfl)
theorem fz_zero : Fz 0 := ⟨by decide +kernel, by decide +kernel⟩
inductive R_is_row : List PyData → PyData → Prop
  | mk (a : Rat) (l : List Rat) (h : 0 < a) (hz : Fz a) (hl : l.length ≤ 8) : R_is_row [pd (a :: l)] (.bool true)
theorem ok_is_row (T : Tx K mg) : Fn P w K mg base "is_row" ["thing"] 4 (spD K R_is_row) :=
  Fn.ofD T.d_is_row sc_is_row bd_is_row (fun _ _ h => by cases h; rfl) fun f cdv A outer s H E ds d hr hR => by
    cases hR with
    | mk a l h hz hl =>
      obtain ⟨t, ht⟩ := T.c_MOST_MOMENTS
      obtain ⟨aN, mN, dN⟩ := T.c_NOUGHT
      refine ss_one (s1_ret (ev_andT (ev_call (ok_are_fractions T) (hr.mono (by decide)) (ea_cons (ev_var 0) (ea_cons (ev_cstI ht) ea_nil)) (.mk (a :: l) 9 (by simp; omega) (by simp; omega))) (ev_andT ?_ (ev_one ?_))) rfl)
      · exact ev_cmpE (ec_nePd (r := a :: l) (s := []) hr.units (ev_var 0) (ev_tup ea_nil)) (by simp)
      · exact EV.is (ev_call (ok_is_under T) (hr.mono (by decide)) (ea_cons (ev_cst mN dN) (ea_cons (ev_ix0 (ev_var 0)) ea_nil)) (.mk 0 a fz_zero hz)) (by simp [h])
inductive R_need_row : List PyData → PyData → Prop
  | mk (a : Rat) (l : List Rat) (h : 0 < a) (hz : Fz a) (hl : l.length ≤ 8) : R_need_row [pd (a :: l)] (pd (a :: l))
theorem ok_need_row (T : Tx K mg) : Fn P w K mg base "need_row" ["thing"] 5 (spD K R_need_row) :=
  Fn.ofD T.d_need_row sc_need_row bd_need_row (fun _ _ h => by cases h; rfl) fun f cdv A outer s H E ds d hr hR => by
    cases hR with
    | mk a l h hz hl =>
      refine ss_cons (s1_ifF (et_notT (et_val (ev_call (ok_is_row T) (hr.mono (by decide)) (ea_cons (ev_var 0) ea_nil) (.mk a l h hz hl)))) (ss_nil ?_))
      exact ss_one (s1_ret (ev_var 0) rfl)
inductive R_is_pair : List PyData → PyData → Prop
  | mk (xw : Rat × Rat) : R_is_pair [pr xw] (.bool true)
theorem ok_is_pair (T : Tx K mg) : Fn P w K mg base "is_pair" ["thing"] 3 (spD K R_is_pair) :=
  Fn.ofD T.d_is_pair sc_is_pair bd_is_pair (fun _ _ h => by cases h; rfl) fun f cdv A outer s H E ds d hr hR => by
    cases hR with
    | mk xw =>
      refine ss_one (s1_ret (ev_andT ?_ (ev_andT ?_ (ev_one ?_))) rfl)
      · exact ev_isi T.b_isinstance T.b_tuple hv_tuple (ev_var 0) (by exact kib_tt)
      · exact ev_cmpE (ec_eqI (ev_lenT (ds := [fr xw.1, fr xw.2]) T.b_len (ev_var 0)) ev_int) (by rfl)
      · refine EV.is (ev_all (bs := [true, true]) rfl T.b_all (EL.ev (el_lcN 1 sc_is_pair.nd rfl rfl (it_tup (ds := [xw.1, xw.2].map fr) (ev_var 0) stays_c) ?_ ?_ _ ?_ ?_ ?_ ?_))) rfl
        · exact blkOk_by (N := N_is_pair) (sc := defScope s_is_pair) (by decide +kernel)
        · exact fun _ _ _ _ _ => pg_name sc_is_pair.nd rfl (Or.inl rfl)
        · rfl
        · rfl
        · exact Nat.le_of_ble_eq_true rfl
        · intro k d e h1 h2 s Hb C cl fp
          obtain ⟨r, _, rfl⟩ := map_one h1
          obtain rfl := true_get (n := 2) h2
          exact ev_call (ok_is_fraction T) (hr.mono (by decide)) (ea_cons (ev_var 1) ea_nil) (.mk r)
/-- what a share must be -/
structure ShOk (S : Shr) : Prop where
  ne : 1 ≤ S.length
  few : S.length ≤ 6
  asc : ∀ (i : Nat) (a b : Rat × Rat), S[i]? = some a → S[i + 1]? = some b → a.1 < b.1
  pos : ∀ a ∈ S, 0 < a.2
  fx : ∀ a ∈ S, Fz a.1
  fw : ∀ a ∈ S, Fz a.2
theorem sdl (S : Shr) : (S.map pr).length = S.length := List.length_map ..
inductive R_are_pairs : List PyData → PyData → Prop
  | mk (S : Shr) (h : ShOk S) : R_are_pairs [sd S, .int 6] (.bool true)
theorem ok_are_pairs (T : Tx K mg) : Fn P w K mg base "are_pairs" ["thing", "most"] 4 (spD K R_are_pairs) :=
  Fn.ofD T.d_are_pairs sc_are_pairs bd_are_pairs (fun _ _ h => by cases h; rfl) fun f cdv A outer s H E ds d hr hR => by
    cases hR with
    | mk S h =>
      obtain ⟨aN, mN, dN⟩ := T.c_NOUGHT
      refine ss_cons (s1_ifF (et_w (ew_orF ?_ (ew_orF ?_ (ew_or1 (et_notT (et_valE (ev_all (bs := List.replicate S.length true) rfl T.b_all (EL.ev ?_)) ?_)))))) (ss_nil ?_))
      · exact et_notT (et_val (ev_isi T.b_isinstance T.b_tuple hv_tuple (ev_var 0) (by exact kib_tt)))
      · exact et_notT (et_chain op_le op_le ev_int (ev_lenT (ds := S.map pr) T.b_len (ev_var 0)) (ev_var 1) (by have := h.ne; have := h.few; rw [sdl]; simp; omega))
      · refine el_lcN 2 sc_are_pairs.nd rfl rfl (it_tup (ds := S.map pr) (ev_var 0) stays_c) ?_ ?_ _ ?_ ?_ ?_ ?_
        · exact blkOk_by (N := N_are_pairs) (sc := defScope s_are_pairs) (by decide +kernel)
        · exact fun _ _ _ _ _ => pg_name sc_are_pairs.nd rfl (Or.inl rfl)
        · simp
        · exact nolAll_bool _
        · have := h.few; rw [sdl]; omega
        · intro k d e h1 h2 s Hb C cl fp
          obtain ⟨r, _, rfl⟩ := map_one h1
          obtain rfl := true_get h2
          exact ev_call (ok_is_pair T) (hr.mono (by decide)) (ea_cons (ev_var 2) ea_nil) (.mk r)
      · exact all_rep _
      refine ss_cons (s1_ifF (et_notT (et_valE (ev_all (bs := List.replicate (S.length - 1) true) rfl T.b_all (EL.ev ?_)) (all_rep _))) (ss_nil ?_))
      · refine el_lcT 3 4 sc_are_pairs.nd rfl (by decide) (it_zipT (ds := S.map pr) (es := (S.map pr).drop 1) T.b_zip (ev_var 0) (EV.is (ev_slTfrom (ds := S.map pr) (ev_var 0) ev_int) (by rw [show (1 : Int) = ((1 : Nat) : Int) from rfl, cutD_from])) stays_c stays_c) ?_ ?_ _ ?_ ?_ ?_ ?_
        · exact blkOk_by (N := N_are_pairs) (sc := defScope s_are_pairs) (by decide +kernel)
        · exact fun _ _ _ _ _ => pg_tup rfl (pgs_cons (pg_name sc_are_pairs.nd rfl (Or.inl rfl)) (pgs_cons (pg_name sc_are_pairs.nd rfl (Or.inl rfl)) pgs_nil))
        · rw [zipD_len]; simp
        · exact nolAll_bool _
        · have := h.few; rw [zipD_len, sdl]; omega
        · intro k d e h1 h2
          obtain ⟨a, b, g1, g2, rfl⟩ := zipD_inv h1
          obtain rfl := true_get h2
          rw [List.getElem?_drop] at g2
          obtain ⟨u, hu, rfl⟩ := map_one g1
          obtain ⟨v, hv, rfl⟩ := map_one g2
          rw [Nat.add_comm] at hv
          refine ⟨_, _, rfl, fun s Hb C cl fp => ?_⟩
          exact EV.is (ev_call (ok_is_under T) (hr.mono (by decide)) (ea_cons (ev_ix0 (ev_var 3)) (ea_cons (ev_ix0 (ev_var 4)) ea_nil)) (.mk u.1 v.1 (h.fx u (List.mem_of_getElem? hu)) (h.fx v (List.mem_of_getElem? hv)))) (by simp [h.asc k u v hu hv])
      refine ss_one (s1_ret (EV.is (ev_all (bs := List.replicate S.length true) rfl T.b_all (EL.ev ?_)) (by rw [all_rep])) rfl)
      refine el_lcT 5 6 sc_are_pairs.nd rfl (by decide) (it_tup (ds := S.map pr) (ev_var 0) stays_c) ?_ ?_ _ ?_ ?_ ?_ ?_
      · exact blkOk_by (N := N_are_pairs) (sc := defScope s_are_pairs) (by decide +kernel)
      · exact fun _ _ _ _ _ => pg_tup rfl (pgs_cons (pg_name sc_are_pairs.nd rfl (Or.inl rfl)) (pgs_cons (pg_name sc_are_pairs.nd rfl (Or.inl rfl)) pgs_nil))
      · simp
      · exact nolAll_bool _
      · have := h.few; rw [sdl]; omega
      · intro k d e h1 h2
        obtain ⟨u, hu, rfl⟩ := map_one h1
        obtain rfl := true_get h2
        refine ⟨_, _, rfl, fun s Hb C cl fp => ?_⟩
        exact EV.is (ev_call (ok_is_under T) (hr.mono (by decide)) (ea_cons (ev_cst mN dN) (ea_cons (ev_var 6) ea_nil)) (.mk 0 u.2 fz_zero (h.fw u (List.mem_of_getElem? hu)))) (by simp [h.pos u (List.mem_of_getElem? hu)])
inductive R_is_share : List PyData → PyData → Prop
  | mk (S : Shr) (h : ShOk S) : R_is_share [sd S] (.bool true)
theorem ok_is_share (T : Tx K mg) : Fn P w K mg base "is_share" ["thing"] 5 (spD K R_is_share) :=
  Fn.ofD T.d_is_share sc_is_share bd_is_share (fun _ _ h => by cases h; rfl) fun f cdv A outer s H E ds d hr hR => by
    cases hR with
    | mk S h =>
      obtain ⟨t, ht⟩ := T.c_MOST_PAIRS
      exact ss_one (s1_ret (ev_call (ok_are_pairs T) (hr.mono (by decide)) (ea_cons (ev_var 0) (ea_cons (ev_cstI ht) ea_nil)) (.mk S h)) rfl)
inductive R_need_share : List PyData → PyData → Prop
  | mk (S : Shr) (h : ShOk S) : R_need_share [sd S] (sd S)
theorem ok_need_share (T : Tx K mg) : Fn P w K mg base "need_share" ["thing"] 6 (spD K R_need_share) :=
  Fn.ofD T.d_need_share sc_need_share bd_need_share (fun _ _ h => by cases h; rfl) fun f cdv A outer s H E ds d hr hR => by
    cases hR with
    | mk S h =>
      refine ss_cons (s1_ifF (et_notT (et_val (ev_call (ok_is_share T) (hr.mono (by decide)) (ea_cons (ev_var 0) ea_nil) (.mk S h)))) (ss_nil ?_))
      exact ss_one (s1_ret (ev_var 0) rfl)
inductive R_need_top : List PyData → PyData → Prop
  | mk (n : Nat) (h : n < 9) : R_need_top [.int (n : Int)] .none
theorem ok_need_top (T : Tx K mg) : Fn P w K mg base "need_top" ["top"] 2 (spD K R_need_top) :=
  Fn.ofD T.d_need_top sc_need_top bd_need_top (fun _ _ h => by cases h; rfl) fun f cdv A outer s H E ds d hr hR => by
    cases hR with
    | mk n h =>
      obtain ⟨t, ht⟩ := T.c_MOST_MOMENTS
      refine ss_one (s1_ifF (et_w (ew_orF (et_notT (et_val (ev_call (ok_is_integer T) (hr.mono (by decide)) (ea_cons (ev_var 0) ea_nil) (.mk n)))) (ew_or1 (et_notT (et_chain op_le op_lt ev_int (ev_var 0) (ev_cstI ht) (by simp; omega)))))) (ss_nil rfl))
/-- sizes of a share's moments to n -/
structure MoOk (S : Shr) (n : Nat) : Prop where
  fx : ∀ a ∈ S, Fz a.1
  fw : ∀ a ∈ S, Fz a.2
  fp : ∀ a ∈ S, ∀ k, k ≤ n → Fz (a.1 ^ k)
  ft : ∀ a ∈ S, ∀ k, k ≤ n → Fz (a.2 * a.1 ^ k)
  fs : ∀ j k, k ≤ n → Fz ((S.map fun xw => xw.2 * xw.1 ^ k).take j).sum
inductive R_moments_in : List PyData → PyData → Prop
  | mk (S : Shr) (n : Nat) (h : MoOk S n) (hn : n ≤ 8) (hs : S.length ≤ 6) : R_moments_in [sd S, .int (n : Int)] (pd (moms S n))
theorem range_take_succ {α : Type} (f : Nat → α) (k : Nat) : (List.range (k + 1)).map f = (List.range k).map f ++ [f k] := by rw [List.range_succ, List.map_append]; rfl
theorem ok_moments_in (T : Tx K mg) : Fn P w K mg base "moments_in" ["share", "top"] 5 (spD K R_moments_in) :=
  Fn.ofD T.d_moments_in sc_moments_in bd_moments_in (fun _ _ h => by cases h; rfl) fun f cdv A outer s H E ds d hr hR => by
    cases hR with
    | mk S n h hn hs =>
      refine ss_cons (s1_setL 2 sc_moments_in.nd (el_lst ea_nil) rfl ?_)
      refine ss_cons (s1_forN 3 sc_moments_in.nd PassesOwn.never rfl (it_range (n + 1) T.b_range (EV.is (ev_add (ev_var 1) ev_int) (by simp)) (Nat.lt_of_le_of_lt (show n + 1 ≤ 9 by omega) (by decide))) (fun k δ => ∃ x y z, δ = [.arg (sd S), .arg (.int (n : Int)), .own (((List.range k).map (mo S)).map fr), x, y, z] ∧ x.keep = true ∧ y.keep = true ∧ z.keep = true) ⟨_, _, _, rfl, rfl, rfl, rfl⟩ ?_ ?_)
      · rintro k d δ hd ⟨x, y, z, rfl, hx, hy, hz⟩
        have hk : k < n + 1 := by
          have := (List.getElem?_eq_some_iff.mp hd).1
          rwa [rangeD_len] at this
        rw [rangeD_get hk] at hd
        cases hd
        refine ss_one (s1_append 2 rfl ?_ (ev_call (ok_sum_in T) (hr.mono (by decide)) (ea_cons (EL.ev (el_lcT 4 5 sc_moments_in.nd rfl (by decide) (it_tup (ds := S.map pr) (ev_var 0) stays_c) ?_ ?_ _ ?_ ?_ ?_ ?_)) ea_nil) (.mk (S.map fun xw => xw.2 * xw.1 ^ k) ?_ ?_)) (nol_fr _) ?_ ?_ ?_)
        · simp [keep_arg, keep_own, keep_int, hy, hz]
        · exact blkOk_by (N := N_moments_in) (sc := defScope s_moments_in) (by decide +kernel)
        · exact fun _ _ _ _ _ => pg_tup rfl (pgs_cons (pg_name sc_moments_in.nd rfl (Or.inl rfl)) (pgs_cons (pg_name sc_moments_in.nd rfl (Or.inl rfl)) pgs_nil))
        · simp
        · exact nolAll_fr _
        · rw [sdl]; omega
        · intro j d e h1 h2
          rw [List.map_map] at h2
          obtain ⟨u, hu, rfl, rfl⟩ := map_two h1 h2
          refine ⟨_, _, rfl, fun s Hb C cl fp => ?_⟩
          exact ev_call (ok_mul T) (hr.mono (by decide)) (ea_cons (ev_var 5) (ea_cons (ev_call (ok_power_in T) (hr.mono (by decide)) (ea_cons (ev_var 4) (ea_cons (ev_var 3) ea_nil)) (.mk u.1 k (h.fx u hu) (fun i hi => h.fp u hu i (by omega)) (by omega))) ea_nil)) (.mk u.2 (u.1 ^ k) (h.fw u hu) (h.fp u hu k (by omega)))
        · intro r hr'
          obtain ⟨u, hu, rfl⟩ := List.mem_map.mp hr'
          exact h.ft u hu k (by omega)
        · exact fun j => h.fs j k (by omega)
        · simp; omega
        · refine ⟨_, _, _, ?_, (rfl : (Sl.dat (.int (k : Int))).keep = true), hy, hz⟩
          rw [range_take_succ, List.map_append]
          rfl
        · exact pe_bm PySem.F.plainAttrs_list PySem.F.slot_list_append PySem.F.type_list_append mt_append (pv 2) (pa_cons c_e pa_nil)
      · rintro δ ⟨x, y, z, rfl, hx, hy, hz⟩
        rw [rangeD_len]
        exact ss_one (s1_ret (ev_tupL T.b_tuple (ev_var 2)) rfl)
inductive R_moments : List PyData → PyData → Prop
  | mk (S : Shr) (n : Nat) (hS : ShOk S) (h : MoOk S n) (hn : n ≤ 8) : R_moments [sd S, .int (n : Int)] (pd (moms S n))
theorem ok_moments (T : Tx K mg) : Fn P w K mg base "moments" ["share", "top"] 7 (spD K R_moments) :=
  Fn.ofD T.d_moments sc_moments bd_moments (fun _ _ h => by cases h; rfl) fun f cdv A outer s H E ds d hr hR => by
    cases hR with
    | mk S n hS h hn =>
      refine ss_cons (s1_drop (ev_call (ok_need_share T) (hr.mono (by decide)) (ea_cons (ev_var 0) ea_nil) (.mk S hS)) ?_)
      refine ss_cons (s1_drop (ev_call (ok_need_top T) (hr.mono (by decide)) (ea_cons (ev_var 1) ea_nil) (.mk n (by omega))) ?_)
      exact ss_one (s1_ret (ev_call (ok_moments_in T) (hr.mono (by decide)) (ea_cons (ev_var 0) (ea_cons (ev_var 1) ea_nil)) (.mk S n h hn hS.few)) rfl)
inductive R_sum_for : List PyData → PyData → Prop
  | mk (row p : List Rat) (h1 : ∀ x ∈ row, Fz x) (h2 : ∀ x ∈ p, Fz x) (h3 : ∀ x ∈ List.zipWith (fun a b => a * b) p row, Fz x) (h4 : ∀ k, Fz ((List.zipWith (fun a b => a * b) p row).take k).sum) (hz : p.length ≤ 1000) : R_sum_for [pd row, pd p] (fr (dot p row))
theorem ok_sum_for (T : Tx K mg) : Fn P w K mg base "sum_for" ["row", "poly"] 5 (spD K R_sum_for) :=
  Fn.ofD T.d_sum_for sc_sum_for bd_sum_for (fun _ _ h => by cases h; rfl) fun f cdv A outer s H E ds d hr hR => by
    cases hR with
    | mk row p h1 h2 h3 h4 hz =>
      refine ss_one (s1_ret (ev_call (ok_sum_in T) (hr.mono (by decide)) (ea_cons (EL.ev (el_lcT 2 3 sc_sum_for.nd rfl (by decide) (it_zipT (ds := p.map fr) (es := row.map fr) T.b_zip (ev_var 1) (ev_var 0) stays_c stays_c) ?_ ?_ _ ?_ ?_ ?_ ?_)) ea_nil) (.mk (List.zipWith (fun a b => a * b) p row) h3 h4)) rfl)
      · exact blkOk_by (N := N_sum_for) (sc := defScope s_sum_for) (by decide +kernel)
      · exact fun _ _ _ _ _ => pg_tup rfl (pgs_cons (pg_name sc_sum_for.nd rfl (Or.inl rfl)) (pgs_cons (pg_name sc_sum_for.nd rfl (Or.inl rfl)) pgs_nil))
      · rw [zipD_len]; simp
      · exact nolAll_fr _
      · rw [zipD_len, pdl]; omega
      · intro j d e g1 g2
        obtain ⟨a, b, e1, e2, rfl⟩ := zipD_inv g1
        obtain ⟨u, hu, rfl⟩ := map_one e1
        obtain ⟨v, hv, rfl⟩ := map_one e2
        obtain ⟨y, hy, rfl⟩ := map_one g2
        rw [List.getElem?_zipWith, hu, hv] at hy
        obtain rfl := Option.some.inj hy
        refine ⟨_, _, rfl, fun s Hb C cl fp => ?_⟩
        exact ev_call (ok_mul T) (hr.mono (by decide)) (ea_cons (ev_var 2) (ea_cons (ev_var 3) ea_nil)) (.mk u v (h2 u (List.mem_of_getElem? hu)) (h1 v (List.mem_of_getElem? hv)))
end
end RS

set_option Elab.async false
set_option linter.all false
set_option maxRecDepth 100000
set_option maxHeartbeats 4000000
/-! Ladders. -/
namespace RS
open PySem PySem.Spec PyProof.Rows L2
def ld (t : Rat) (A B : List Rat) : PyData := .tuple [fr t, pd A, pd B]
theorem nol_ld (t : Rat) (A B : List Rat) : nol (ld t A B) = true := by
  unfold ld
  simp [nol, nolAll, nol_fr, nol_pd]
section
variable {X : Cx} {H0 : Hp} {δ : List Sl} {a b : Expr} {i : Int}
theorem any_eqV (i : Int) : ∀ ns : List Int, inV (.int i) (ns.map V.int) = ns.contains i
  | [] => rfl
  | n :: ns => by
    have ih := any_eqV i ns
    unfold inV at ih ⊢
    rw [List.map_cons, List.any_cons, ih, List.contains_cons]
    congr 1
    show (n == i) = (i == n)
    rw [Bool.eq_iff_iff]
    simp only [beq_iff_eq]
    exact ⟨Eq.symm, Eq.symm⟩
theorem flat_ints (ns : List Int) : (ns.map V.int).all flatV = true := by
  induction ns with
  | nil => rfl
  | cons n ns ih => rw [List.map_cons, List.all_cons, ih]; rfl
theorem ec_notInT {ns : List Int} (ha : EV X H0 δ a (.int i)) (hb : EV X H0 δ b (.tuple (ns.map PyData.int))) : EC X H0 δ .NotIn a b (.bool (!ns.contains i)) := ec_R op_notIn_seq ha hb fun x y H h1 h2 Q q => by
  cases h1
  cases h2 with
  | tup q1 d1 =>
    have e := dpAll_ints d1
    subst e
    refine ⟨_, _, rfl, .inr q1, rfl, flat_ints ns, q _ H (Same.refl H) ?_⟩
    rw [if_pos rfl, any_eqV]
    exact .bl _
end
section
variable {P : Program} {w : World} {K : PySem.W.Frag} {mg : Str → Option Value} {base : Heap}
inductive R_is_form : List PyData → PyData → Prop
  | mk (t : Rat) (A B : List Rat) (h : 0 < t) (hz : Fz t) (hA : A.length ≤ 5) (hB : B.length ≤ 5) : R_is_form [ld t A B] (.bool true)
theorem ok_is_form (T : Tx K mg) : Fn P w K mg base "is_form" ["thing"] 4 (spD K R_is_form) :=
  Fn.ofD T.d_is_form sc_is_form bd_is_form (fun _ _ h => by cases h; rfl) fun f cdv A outer s H E ds d hr hR => by
    cases hR with
    | mk t A B h hz hA hB =>
      obtain ⟨tk, ht⟩ := T.c_MOST_ENDED
      obtain ⟨aN, mN, dN⟩ := T.c_NOUGHT
      refine ss_cons (s1_ifF (et_w (ew_orF ?_ (ew_orF ?_ (ew_orF ?_ (ew_or1 ?_))))) (ss_nil ?_))
      · exact et_notT (et_val (ev_isi T.b_isinstance T.b_tuple hv_tuple (ev_var 0) (by exact kib_tt)))
      · exact et_cmpE (ec_neI (ev_lenT (ds := [fr t, pd A, pd B]) T.b_len (ev_var 0)) ev_int) (by rfl)
      · exact et_notT (et_val (ev_call (ok_is_fraction T) (hr.mono (by decide)) (ea_cons (ev_ix0 (ev_var 0)) ea_nil) (.mk t)))
      · exact et_notT (et_valE (ev_call (ok_is_under T) (hr.mono (by decide)) (ea_cons (ev_cst mN dN) (ea_cons (ev_ix0 (ev_var 0)) ea_nil)) (.mk 0 t fz_zero hz)) (by simp [h]))
      · exact ss_one (s1_ret (ev_andT (ev_call (ok_are_fractions T) (hr.mono (by decide)) (ea_cons (ev_ix1 (ev_var 0)) (ea_cons (ev_cstI ht) ea_nil)) (.mk A 5 (by omega) (by omega))) (ev_one (ev_call (ok_are_fractions T) (hr.mono (by decide)) (ea_cons (ev_ix2 (ev_var 0)) (ea_cons (ev_cstI ht) ea_nil)) (.mk B 5 (by omega) (by omega))))) rfl)
def endB (B : List Rat) : Bool := decide (B.getLast? = some 0)
inductive R_is_ended_in : List PyData → PyData → Prop
  | mk (t : Rat) (A B : List Rat) : R_is_ended_in [ld t A B] (.bool (endB B))
theorem ok_is_ended_in (T : Tx K mg) : Fn P w K mg base "is_ended_in" ["ladder"] 1 (spD K R_is_ended_in) :=
  Fn.ofD T.d_is_ended_in sc_is_ended_in bd_is_ended_in (fun _ _ h => by cases h; rfl) fun f cdv A outer s H E ds d hr hR => by
    cases hR with
    | mk t A B =>
      obtain ⟨aN, mN, dN⟩ := T.c_NOUGHT
      by_cases h : B = []
      · refine ss_one (s1_ret (EV.is (ev_andF (ev_cmpE (ec_nePd (r := B) (s := []) hr.units (ev_ix2 (ev_var 0)) (ev_tup ea_nil)) (by simp [h]))) ?_) rfl)
        subst h; rfl
      · obtain ⟨x, hx⟩ : ∃ x, B.getLast? = some x := by
          cases q : B.getLast? with
          | none => exact absurd (List.getLast?_eq_none_iff.mp q) h
          | some x => exact ⟨x, rfl⟩
        refine ss_one (s1_ret (ev_andT (ev_cmpE (ec_nePd (r := B) (s := []) hr.units (ev_ix2 (ev_var 0)) (ev_tup ea_nil)) (by simp [h])) (ev_one ?_)) rfl)
        exact ev_cmpE (ec_eqFr (r := x) (s := 0) hr.units (ev_ixT (ds := B.map fr) (ev_ix2 (ev_var 0)) (ev_neg ev_int) (atI_m1 (by rw [List.getLast?_map, hx]; rfl))) (ev_cst mN dN)) (by simp [endB, hx])
structure LdOk (t : Rat) (A B : List Rat) : Prop where
  t0 : 0 < t
  ft : Fz t
  lA : A.length ≤ 5
  lB : B.length ≤ 5
  fB : ∀ b ∈ B, Fz b
  ended : endB B = true → A.length = B.length ∧ ∀ b ∈ B.dropLast, 0 < b
  opn : endB B = false → A.length ≤ 4 ∧ (A.length = B.length ∨ A.length = B.length + 1) ∧ ∀ b ∈ B, 0 < b
inductive R_is_ladder : List PyData → PyData → Prop
  | mk (t : Rat) (A B : List Rat) (h : LdOk t A B) : R_is_ladder [ld t A B] (.bool true)
theorem ok_is_ladder (T : Tx K mg) : Fn P w K mg base "is_ladder" ["thing"] 5 (spD K R_is_ladder) :=
  Fn.ofD T.d_is_ladder sc_is_ladder bd_is_ladder (fun _ _ h => by cases h; rfl) fun f cdv Ar outer s H E ds d hr hR => by
    cases hR with
    | mk t A B h =>
      obtain ⟨aN, mN, dN⟩ := T.c_NOUGHT
      obtain ⟨tk, ht⟩ := T.c_MOST_OPEN
      refine ss_cons (s1_ifF (et_notT (et_val (ev_call (ok_is_form T) (hr.mono (by decide)) (ea_cons (ev_var 0) ea_nil) (.mk t A B h.t0 h.ft h.lA h.lB)))) (ss_nil ?_))
      refine ss_cons (s1_unp3 1 2 3 (ev_var 0) ?_ (pg_tup rfl (pgs_cons (pg_name sc_is_ladder.nd rfl (Or.inl rfl)) (pgs_cons (pg_name sc_is_ladder.nd rfl (Or.inl rfl)) (pgs_cons (pg_name sc_is_ladder.nd rfl (Or.inl rfl)) pgs_nil)))))
      refine ss_cons (s1_if (et_val (ev_call (ok_is_ended_in T) (hr.mono (by decide)) (ea_cons (ev_var 0) ea_nil) (.mk t A B))) (fun he => ?_) (fun he => ?_))
      · obtain ⟨hl, hp⟩ := h.ended he
        refine ss_one (s1_ret (ev_andT (ev_cmpE (ec_eqI (ev_lenT (ds := A.map fr) T.b_len (ev_var 2)) (ev_lenT (ds := B.map fr) T.b_len (ev_var 3))) (by rw [pdl, pdl]; simp [hl])) (ev_one ?_)) rfl)
        refine EV.is (ev_all (bs := List.replicate B.dropLast.length true) rfl T.b_all (EL.ev (el_lcN 4 sc_is_ladder.nd rfl rfl (it_tup (ds := B.dropLast.map fr) (EV.is (ev_slTto (ds := B.map fr) (ev_var 3) (ev_neg ev_int)) (by rw [cutD_m1, List.map_dropLast])) stays_c) ?_ ?_ _ ?_ ?_ ?_ ?_))) (by rw [all_rep])
        · exact blkOk_by (N := N_is_ladder) (sc := defScope s_is_ladder) (by decide +kernel)
        · exact fun _ _ _ _ _ => pg_name sc_is_ladder.nd rfl (Or.inl rfl)
        · simp
        · exact nolAll_bool _
        · have := h.lB; rw [pdl]; simp; omega
        · intro k d e h1 h2 s Hb C cl fp
          obtain ⟨r, hr', rfl⟩ := map_one h1
          obtain rfl := true_get h2
          have hm := List.mem_of_getElem? hr'
          exact EV.is (ev_call (ok_is_under T) (hr.mono (by decide)) (ea_cons (ev_cst mN dN) (ea_cons (ev_var 4) ea_nil)) (.mk 0 r fz_zero (h.fB r (List.dropLast_subset _ hm)))) (by simp [hp r hm])
      · obtain ⟨hl4, hl, hp⟩ := h.opn he
        refine ss_nil ?_
        refine ss_cons (s1_ifF (et_w (ew_orF ?_ (ew_or1 ?_))) (ss_nil ?_))
        · exact et_cmpE (ec_gt (ev_lenT (ds := A.map fr) T.b_len (ev_var 2)) (ev_cstI ht)) (by rw [pdl]; simp; omega)
        · refine et_cmpE (ec_notInT (ns := [0, 1]) (ev_sub (ev_lenT (ds := A.map fr) T.b_len (ev_var 2)) (ev_lenT (ds := B.map fr) T.b_len (ev_var 3))) (ev_tup (ea_cons ev_int (ea_cons ev_int ea_nil)))) ?_
          rw [pdl, pdl]
          have : (A.length : Int) - B.length = 0 ∨ (A.length : Int) - B.length = 1 := by omega
          rcases this with e | e <;> simp [e]
        · refine ss_one (s1_ret (EV.is (ev_all (bs := List.replicate B.length true) rfl T.b_all (EL.ev (el_lcN 4 sc_is_ladder.nd rfl rfl (it_tup (ds := B.map fr) (ev_var 3) stays_c) ?_ ?_ _ ?_ ?_ ?_ ?_))) (by rw [all_rep])) rfl)
          · exact blkOk_by (N := N_is_ladder) (sc := defScope s_is_ladder) (by decide +kernel)
          · exact fun _ _ _ _ _ => pg_name sc_is_ladder.nd rfl (Or.inl rfl)
          · simp
          · exact nolAll_bool _
          · have := h.lB; rw [pdl]; omega
          · intro k d e h1 h2 s Hb C cl fp
            obtain ⟨r, hr', rfl⟩ := map_one h1
            obtain rfl := true_get h2
            have hm := List.mem_of_getElem? hr'
            exact EV.is (ev_call (ok_is_under T) (hr.mono (by decide)) (ea_cons (ev_cst mN dN) (ea_cons (ev_var 4) ea_nil)) (.mk 0 r fz_zero (h.fB r hm))) (by simp [hp r hm])
inductive R_need_ladder : List PyData → PyData → Prop
  | mk (t : Rat) (A B : List Rat) (h : LdOk t A B) : R_need_ladder [ld t A B] (ld t A B)
theorem ok_need_ladder (T : Tx K mg) : Fn P w K mg base "need_ladder" ["thing"] 6 (spD K R_need_ladder) :=
  Fn.ofD T.d_need_ladder sc_need_ladder bd_need_ladder (fun _ _ h => by cases h; rfl) fun f cdv Ar outer s H E ds d hr hR => by
    cases hR with
    | mk t A B h =>
      refine ss_cons (s1_ifF (et_notT (et_val (ev_call (ok_is_ladder T) (hr.mono (by decide)) (ea_cons (ev_var 0) ea_nil) (.mk t A B h)))) (ss_nil ?_))
      exact ss_one (s1_ret (ev_var 0) rfl)
inductive R_is_ended : List PyData → PyData → Prop
  | mk (t : Rat) (A B : List Rat) (h : LdOk t A B) : R_is_ended [ld t A B] (.bool (endB B))
theorem ok_is_ended (T : Tx K mg) : Fn P w K mg base "is_ended" ["ladder"] 7 (spD K R_is_ended) :=
  Fn.ofD T.d_is_ended sc_is_ended bd_is_ended (fun _ _ h => by cases h; rfl) fun f cdv Ar outer s H E ds d hr hR => by
    cases hR with
    | mk t A B h =>
      exact ss_one (s1_ret (ev_call (ok_is_ended_in T) (hr.mono (by decide)) (ea_cons (ev_call (ok_need_ladder T) (hr.mono (by decide)) (ea_cons (ev_var 0) ea_nil) (.mk t A B h)) ea_nil) (.mk t A B)) rfl)
inductive R_next_rung : List PyData → PyData → Prop
  | mk (p q : List Rat) (a b : Rat) (h : NxOk p q a b) : R_next_rung [pd p, pd q, fr a, fr b] (pd (nxt p q a b))
theorem ok_next_rung (T : Tx K mg) : Fn P w K mg base "next_rung" ["poly", "before", "level", "step"] 5 (spD K R_next_rung) :=
  Fn.ofD T.d_next_rung sc_next_rung bd_next_rung (fun _ _ h => by cases h; rfl) fun f cdv Ar outer s H E ds d hr hR => by
    cases hR with
    | mk p q a b h =>
      have := h.lp; have := h.lq
      have l1 := pshf_len p 1
      have l2 := ptim_len p a
      have l3 := psub_len (pshf p 1) (ptim p a)
      have l4 := ptim_len q b
      refine ss_one (s1_ret (ev_call (ok_less_of T) (hr.mono (by decide)) (ea_cons (ev_call (ok_less_of T) (hr.mono (by decide)) (ea_cons (ev_call (ok_raised_of T) (hr.mono (by decide)) (ea_cons (ev_var 0) (ea_cons ev_int ea_nil)) (.mk p 1 (by omega) (by omega))) (ea_cons (ev_call (ok_times_of T) (hr.mono (by decide)) (ea_cons (ev_var 0) (ea_cons (ev_var 2) ea_nil)) (.mk p a h.fp h.fa (by omega))) ea_nil)) (.mk (pshf p 1) (ptim p a) h.h1 (fun i => by rw [co_ptim]; exact h.h2 i) (by omega) (by omega)))
        (ea_cons (ev_call (ok_times_of T) (hr.mono (by decide)) (ea_cons (ev_var 1) (ea_cons (ev_var 3) ea_nil)) (.mk q b h.fq h.fb (by omega))) ea_nil)) (.mk _ (ptim q b) (fun i => by rw [co_psub, co_ptim]; exact h.h3 i) (fun i => by rw [co_ptim]; exact h.h4 i) (by omega) (by omega))) rfl)
inductive R_rungs_in : List PyData → List PyData → Prop
  | mk (t : Rat) (A B : List Rat) (hl : A.length ≤ B.length + 1) (hz : A.length ≤ 50) (h : ∀ k, k < A.length → NxOk (rgs A B k).1 (rgs A B k).2 (co A k) (if k = 0 then 0 else co B (k - 1))) : R_rungs_in [ld t A B] ((List.range (A.length + 1)).map fun k => pd (rgs A B k).1)
theorem nolAll_pds {α : Type} (f : α → List Rat) (l : List α) : nolAll (l.map fun k => pd (f k)) = true := nolAll_map (fun _ => nol_pd _) l
theorem atI_m2 {α : Type} {l : List α} {x y : α} : atI (l ++ [x, y]) (-2) = some x := by
  unfold atI ixN
  rw [if_neg (by decide), if_pos (by simp; omega)]
  have e : ((-2 : Int) + ((l ++ [x, y]).length : Int)).toNat = l.length := by simp; omega
  show (l ++ [x, y])[((-2 : Int) + ((l ++ [x, y]).length : Int)).toNat]? = some x
  rw [e]
  simp
theorem ok_rungs_in (T : Tx K mg) : Fn P w K mg base "rungs_in" ["ladder"] 6 (spL K R_rungs_in) :=
  Fn.ofL T.d_rungs_in sc_rungs_in bd_rungs_in (fun _ _ h => by cases h; rfl) fun f cdv Ar outer s H E ds d hr hR => by
    cases hR with
    | mk t A B hl hz h =>
      obtain ⟨aN, mN, dN⟩ := T.c_NOUGHT
      obtain ⟨aO, mO, dO⟩ := T.c_ONE
      refine ss_cons (s1_unp3 1 2 3 (ev_var 0) ?_ (pg_tup rfl (pgs_cons (pg_name sc_rungs_in.nd rfl (Or.inl rfl)) (pgs_cons (pg_name sc_rungs_in.nd rfl (Or.inl rfl)) (pgs_cons (pg_name sc_rungs_in.nd rfl (Or.inl rfl)) pgs_nil)))))
      refine ss_cons (s1_par2 4 5 rfl sc_rungs_in.nd (by decide) (es_l (el_lst (ea_cons (ev_cst mO dO) ea_nil)) rfl) (es_d (ev_tup ea_nil)) ?_)
      refine ss_cons (s1_forT 6 7 sc_rungs_in.nd PassesOwn.never rfl (it_enumT (ds := A.map fr) T.b_enumerate (ev_var 2) (stays_l (nolAll_fr A)))
        (fun k δ => ∃ x y z, δ = [.arg (ld t A B), .dat (fr t), .dat (pd A), .dat (pd B), .own ((List.range (k + 1)).map fun k => pd (rgs A B k).1), .dat (pd (rgs A B k).2), x, y, z] ∧ x.keep = true ∧ y.keep = true ∧ z.keep = true) ⟨_, _, _, rfl, rfl, rfl, rfl⟩ ?_ ?_ (pg_tup rfl (pgs_cons (pg_name sc_rungs_in.nd rfl (Or.inl rfl)) (pgs_cons (pg_name sc_rungs_in.nd rfl (Or.inl rfl)) pgs_nil))))
      · rintro k d δ hd ⟨x, y, z, rfl, hx, hy, hz'⟩
        obtain ⟨a, ha, rfl⟩ := enumD_inv hd
        obtain ⟨r, hr', rfl⟩ := map_one ha
        have hkl : k < A.length := (List.getElem?_eq_some_iff.mp hr').1
        have hco : co A k = r := co_get hr'
        refine ⟨_, _, rfl, ?_⟩
        have hk := h k hkl
        refine ss_cons (s1_set 8 sc_rungs_in.nd (d := fr (if k = 0 then 0 else co B (k - 1))) (ev_if (et_cmp (ec_gt (ev_var 6) ev_int)) (fun hg => ?_) fun hg => ?_) ?_)
        · have hk0 : 0 < k := by
            have := of_decide_eq_true hg; omega
          obtain ⟨b, hb⟩ : ∃ b, B[k - 1]? = some b := there (by omega)
          refine EV.is (ev_ixT (ds := B.map fr) (i := ((k - 1 : Nat) : Int)) (ev_var 3) (EV.is (ev_sub (ev_var 6) ev_int) (by congr 1; omega)) (atI_nat (map_fr_get hb))) ?_
          rw [if_neg (by omega), co_get hb]
        · have hk0 : k = 0 := by
            have := of_decide_eq_false hg; omega
          exact EV.is (ev_cst mN dN) (by rw [if_pos hk0])
        · refine ss_cons (s1_append 4 rfl ?_ (ev_call (ok_next_rung T) (hr.mono (by decide)) (ea_cons (ev_ixL (ds := (List.range (k + 1)).map fun k => pd (rgs A B k).1) (d := pd (rgs A B k).1) (ev_var 4) (ev_neg ev_int) ?_) (ea_cons (ev_var 5) (ea_cons (ev_var 7) (ea_cons (ev_var 8) ea_nil)))) (.mk _ _ r _ (hco ▸ hk))) (nol_pd _) ?_ ?_ ?_)
          · simp [keep_arg, keep_own, keep_int, keep_fr, keep_pd]
          · exact atI_m1 (by rw [List.range_succ, List.map_append]; simp)
          · simp; omega
          · refine ss_one (s1_set 5 sc_rungs_in.nd (d := pd (rgs A B k).1) (ev_ixL (ev_var 4) (ev_neg ev_int) ?_) ?_)
            · rw [List.range_succ, List.map_append, List.append_assoc]
              exact atI_m2
            · refine ⟨.dat (.int (k : Int)), .dat (fr r), .dat (fr (if k = 0 then 0 else co B (k - 1))), ?_, keep_int _, keep_fr _, keep_fr _⟩
              rw [range_take_succ _ (k + 1)]
              show [Sl.arg (ld t A B), .dat (fr t), .dat (pd A), .dat (pd B), .own (_ ++ [_]), .dat _, .dat _, .dat _, .dat _] = _
              rw [← hco]
              rfl
          · exact pe_bm PySem.F.plainAttrs_list PySem.F.slot_list_append PySem.F.type_list_append mt_append (pv 4) (pa_cons c_e pa_nil)
      · rintro δ ⟨x, y, z, rfl, _, _, _⟩
        rw [enumD_len, pdl]
        exact ss_one (s1_retO 4 rfl rfl)
inductive R_rung_polys : List PyData → PyData → Prop
  | mk (t : Rat) (A B : List Rat) (h0 : LdOk t A B) (hl : A.length ≤ B.length + 1) (h : ∀ k, k < A.length → NxOk (rgs A B k).1 (rgs A B k).2 (co A k) (if k = 0 then 0 else co B (k - 1))) : R_rung_polys [ld t A B] (.tuple ((List.range (A.length + 1)).map fun k => pd (rgs A B k).1))
theorem ok_rung_polys (T : Tx K mg) : Fn P w K mg base "rung_polys" ["ladder"] 7 (spD K R_rung_polys) :=
  Fn.ofD T.d_rung_polys sc_rung_polys bd_rung_polys (fun _ _ h => by cases h; rfl) fun f cdv Ar outer s H E ds d hr hR => by
    cases hR with
    | mk t A B h0 hl h =>
      have := h0.lA
      exact ss_one (s1_ret (ev_tupL T.b_tuple (EL.ev (el_call (ok_rungs_in T) (hr.mono (by decide)) (ea_cons (ev_call (ok_need_ladder T) (hr.mono (by decide)) (ea_cons (ev_var 0) ea_nil) (.mk t A B h0)) ea_nil) (.mk t A B hl (by omega) h)))) rfl)
end
end RS

set_option Elab.async false
set_option linter.all false
set_option maxRecDepth 100000
set_option maxHeartbeats 4000000
/-! Rows of ladders. -/
namespace RS
open PySem PySem.Spec PyProof.Rows L2
/-- lists put together -/
theorem el_cat {X : Cx} {H0 : Hp} {δ : List Sl} {a b : Expr} {pos : Pos} {ds es : List PyData} (ha : EL X H0 δ a ds) (hb : EL X H0 δ b es) (hz : ds.length + es.length ≤ 100000) : EL X H0 δ (.BinOp a .Add b pos) (ds ++ es) := fun σ H E Q q =>
  e_of (pe_op op_cat c_e c_e) (ha σ H E _ fun p vs H1 s1 hp h1 d1 => hb σ H1 (E.mono s1) _ fun p' ws H2 s2 hp' h2 d2 => by
    refine ⟨_, _, _, _, rfl, rfl, s2 _ _ h1, h2, by rw [dpAll_len d1, dpAll_len d2]; exact Nat.le_trans hz (by decide), fun r hr => ?_⟩
    exact q r _ _ ((s1.trans s2).trans (Same.new hr)) ((s1.trans s2).free hr) upd_same (dpAll_append (dpAll_same (s2.trans (Same.new hr)) _ _ d1) (dpAll_same (Same.new hr) _ _ d2)))
/-- one statement, then the rest from what is known behind it -/
theorem ss_seq {X : Cx} {H0 : Hp} {δ : List Sl} {st : Stmt} {rest : List Stmt} {D : De} (Q : List Sl → Prop) (h1 : S1 X H0 δ st { D with nx := Q }) (h2 : ∀ δ', Q δ' → SS X H0 δ' rest D) : SS X H0 δ (st :: rest) D :=
  ss_cons fun σ H E En M => h1 σ H E En ⟨fun σ' H' δ' t e q => M.nx σ' H' δ' t e (h2 δ' q), M.rt, M.rl, M.bk, M.ct⟩
theorem set_range {L k : Nat} {f : Nat → Rat} {v : Rat} : (((List.range L).map f).map fr).set k (fr v) = ((List.range L).map fun h => if h = k then v else f h).map fr := by
  apply List.ext_getElem?
  intro i
  by_cases hi : i < L
  · by_cases e : k = i
    · subst e
      rw [List.getElem?_set_self (by simp [hi])]
      simp [hi]
    · rw [List.getElem?_set_ne e]
      simp [hi, Ne.symm e]
  · rw [List.getElem?_eq_none (by simp; omega), List.getElem?_eq_none (by simp; omega)]
theorem get_range {L k : Nat} {f : Nat → Rat} (h : k < L) : (((List.range L).map f).map fr)[k]? = some (fr (f k)) := by simp [h]
section
variable {P : Program} {w : World} {K : PySem.W.Frag} {mg : Str → Option Value} {base : Heap}
inductive R_stepped : List PyData → List PyData → Prop
  | mk (W A B : List Rat) (h : StOk W A B) : R_stepped [.list (W.map fr), pd A, pd B] ((stp W A B).map fr)
theorem ok_stepped (T : Tx K mg) : Fn P w K mg base "stepped" ["worths", "levels", "steps"] 4 (spL K R_stepped) :=
  Fn.ofL T.d_stepped sc_stepped bd_stepped (fun _ _ h => by cases h; rfl) fun f cdv Ar outer s H E ds d hr hR => by
    cases hR with
    | mk W A B h =>
      obtain ⟨aN, mN, dN⟩ := T.c_NOUGHT
      have := h.lA; have := h.lW; have := h.l0; have := h.lB
      have hL : 1 + min W.length B.length ≤ 52 := by omega
      refine ss_cons (s1_setL 3 sc_stepped.nd (ds := ((List.range (1 + min W.length B.length)).map (stpTo W A B 0)).map fr) (EL.is (el_cat (el_lst (ea_cons (ev_cst mN dN) ea_nil)) (el_slLto (ds := W.map fr) (ev_var 0) (ev_lenT (ds := B.map fr) T.b_len (ev_var 2))) ?_) ?_) (nolAll_fr _) ?_)
      · rw [pdl, cutD_to]; simp; omega
      · rw [pdl, cutD_to]
        apply List.ext_getElem?
        intro i
        by_cases hi : i < 1 + min W.length B.length
        · rw [get_range hi]
          cases i with
          | zero => simp [stpTo, Rat.add_zero]
          | succ i =>
            obtain ⟨x, hx⟩ : ∃ x, W[i]? = some x := there (by omega)
            have e : stpTo W A B 0 (i + 1) = x := by simp [stpTo, Rat.add_zero, co_get hx]
            rw [e]
            show (fr 0 :: (W.map fr).take B.length)[i + 1]? = _
            rw [List.getElem?_cons_succ, List.getElem?_take_of_lt (by omega), map_fr_get hx]
        · rw [List.getElem?_eq_none (by simp; omega), List.getElem?_eq_none (by simp; omega)]
      refine ss_cons (s1_forT 4 5 sc_stepped.nd PassesOwn.never rfl (it_enumA 0 (ds := W.map fr) T.b_enumerate rfl rfl (Or.inl rfl)) (fun k δ => ∃ x y, δ = [.arg (.list (W.map fr)), .arg (pd A), .arg (pd B), .own (((List.range (1 + min W.length B.length)).map (stpTo W A B k)).map fr), x, y] ∧ x.keep = true ∧ y.keep = true) ⟨_, _, rfl, rfl, rfl⟩ ?_ ?_ (pg_tup rfl (pgs_cons (pg_name sc_stepped.nd rfl (Or.inl rfl)) (pgs_cons (pg_name sc_stepped.nd rfl (Or.inl rfl)) pgs_nil))))
      · rintro k d δ hd ⟨x, y, rfl, hx, hy⟩
        obtain ⟨a, ha, rfl⟩ := enumD_inv hd
        obtain ⟨r, hr', rfl⟩ := map_one ha
        have hkl : k < W.length := (List.getElem?_eq_some_iff.mp hr').1
        have hco : co W k = r := co_get hr'
        refine ⟨_, _, rfl, ?_⟩
        have b1 : k < A.length → k < 1 + min W.length B.length := fun _ => by omega
        refine ss_seq (fun δ => δ = [.arg (.list (W.map fr)), .arg (pd A), .arg (pd B), .own (((List.range (1 + min W.length B.length)).map fun g => if g = k then stpTo W A B k g + co W k * co A k else stpTo W A B k g).map fr), .dat (.int (k : Int)), .dat (fr r)]) (s1_if (et_cmp (ec_lt (ev_var 4) (ev_lenT (ds := A.map fr) T.b_len (ev_var 1)))) (fun hg => ?_) (fun hg => ?_)) ?_
        · have hkA : k < A.length := by
            have := of_decide_eq_true hg
            rw [pdl] at this; omega
          obtain ⟨a, ha'⟩ := there hkA
          refine ss_one (s1_setitem 3 (m := k) rfl ?_ (ev_call (ok_add T) (hr.mono (by decide)) (ea_cons (ev_ixL (d := fr (stpTo W A B k k)) (ev_var 3) (ev_var 4) ?_) (ea_cons (ev_call (ok_mul T) (hr.mono (by decide)) (ea_cons (ev_var 5) (ea_cons (ev_ixT (ds := A.map fr) (ev_var 1) (ev_var 4) (atI_nat (map_fr_get ha'))) ea_nil)) (.mk r a ?_ ?_)) ea_nil)) (.mk _ _ (h.h3 k k) ?_)) (ev_var 4) ?_ (nol_fr _) ?_ ?_)
          · simp [keep_arg, keep_own, keep_int, keep_fr]
          · exact atI_nat (get_range (b1 hkA))
          · rw [← hco]; exact h.fW k
          · rw [← co_get ha']; exact h.fA k
          · rw [← hco, ← co_get ha']; exact h.h1 k
          · rw [pdl]; exact ixN_nat (by simp; exact b1 hkA)
          · rw [← hco, ← co_get ha']
            show [Sl.arg _, .arg _, .arg _, .own ((((List.range _).map _).map fr).set k (fr _)), .dat _, .dat _] = _
            rw [set_range]
            congr 7
            funext g
            by_cases e : g = k
            · subst e; simp
            · simp [e]
          · exact pg_sub (pv 3) c_e set_list
        · have hkA : A.length ≤ k := by
            have := of_decide_eq_false hg
            rw [pdl] at this; omega
          refine ss_nil ?_
          show [Sl.arg _, .arg _, .arg _, .own _, .dat _, .dat _] = [Sl.arg _, .arg _, .arg _, .own _, .dat _, .dat _]
          congr 7
          funext g
          by_cases e : g = k
          · rw [if_pos e, co_out (p := A) hkA, Rat.mul_zero, Rat.add_zero]
          · rw [if_neg e]
        · rintro δ rfl
          refine ss_one (s1_if (et_cmp (ec_gt (ev_var 4) ev_int)) (fun hg => ?_) (fun hg => ?_))
          · have hk0 : 0 < k := by
              have := of_decide_eq_true hg; omega
            obtain ⟨b, hb⟩ : ∃ b, B[k - 1]? = some b := there (by omega)
            have hkm : k - 1 < 1 + min W.length B.length := by omega
            have hne : k - 1 ≠ k := by omega
            refine ss_one (s1_setitem 3 (m := k - 1) rfl ?_ (ev_call (ok_add T) (hr.mono (by decide)) (ea_cons (ev_ixL (i := ((k - 1 : Nat) : Int)) (d := fr (stpTo W A B k (k - 1))) (ev_var 3) (EV.is (ev_sub (ev_var 4) ev_int) (by congr 1; omega)) ?_) (ea_cons (ev_call (ok_mul T) (hr.mono (by decide)) (ea_cons (ev_var 5) (ea_cons (ev_ixT (ds := B.map fr) (i := ((k - 1 : Nat) : Int)) (ev_var 2) (EV.is (ev_sub (ev_var 4) ev_int) (by congr 1; omega)) (atI_nat (map_fr_get hb))) ea_nil)) (.mk r b ?_ ?_)) ea_nil)) (.mk _ _ (h.h3 k (k - 1)) ?_)) (EV.is (d' := .int ((k - 1 : Nat) : Int)) (EV.is (ev_sub (ev_var 4) ev_int) (by congr 1; omega)) rfl) ?_ (nol_fr _) ?_ ?_)
            · simp [keep_arg, keep_own, keep_int, keep_fr]
            · refine atI_nat ?_
              rw [get_range hkm, if_neg hne]
            · rw [← hco]; exact h.fW k
            · rw [← co_get hb]; exact h.fB _
            · rw [← hco, ← co_get hb]
              have := h.h2 (k - 1)
              rwa [show k - 1 + 1 = k by omega] at this
            · rw [pdl]; exact ixN_nat (by simp; omega)
            · refine ⟨_, _, ?_, keep_int (k : Int), keep_fr r⟩
              rw [← hco, ← co_get hb]
              show [Sl.arg _, .arg _, .arg _, .own ((((List.range _).map _).map fr).set (k - 1) (fr _)), .dat _, .dat _] = [Sl.arg _, .arg _, .arg _, .own _, .dat _, .dat _]
              rw [set_range]
              congr 7
              funext g
              by_cases e : g = k - 1
              · subst e
                rw [if_pos rfl]
                unfold stpTo
                rw [show k - 1 + 1 = k by omega]
                simp [show k - 1 < k by omega, show k - 1 < k + 1 by omega, Rat.add_zero]
              · rw [if_neg e]
                by_cases e2 : g = k
                · subst e2
                  rw [if_pos rfl]
                  unfold stpTo
                  simp [Rat.add_zero, show ¬ g + 1 < g by omega]
                · rw [if_neg e2]
                  unfold stpTo
                  have c1 : (g < k + 1) = (g < k) := by apply propext; omega
                  have c2 : (g + 1 < k + 1) = (g + 1 < k) := by apply propext; omega
                  rw [show (if g < k + 1 then co W g * co A g else 0) = (if g < k then co W g * co A g else 0) by simp only [c1], show (if g + 1 < k + 1 then co W (g + 1) * co B g else 0) = (if g + 1 < k then co W (g + 1) * co B g else 0) by simp only [c2]]
            · exact pg_sub (pv 3) c_e set_list
          · have hk0 : k = 0 := by
              have := of_decide_eq_false hg; omega
            subst hk0
            refine ss_nil ⟨.dat (.int ((0 : Nat) : Int)), .dat (fr r), ?_, keep_int _, keep_fr r⟩
            show [Sl.arg _, .arg _, .arg _, .own _, .dat _, .dat _] = [Sl.arg _, .arg _, .arg _, .own _, .dat _, .dat _]
            congr 7
            funext g
            by_cases e : g = 0
            · subst e; simp [stpTo, Rat.add_zero]
            · rw [if_neg e]
              have : ¬ g < 1 := by omega
              simp [stpTo, this, e]
      · rintro δ ⟨x, y, rfl, hx, hy⟩
        rw [enumD_len, pdl]
        refine ss_one (s1_retO 3 rfl ?_)
        show ((List.range _).map _).map fr = (stp W A B).map fr
        unfold stp
        congr 2
        funext g
        unfold stpTo
        congr 1
        · congr 1
          by_cases e : g < W.length
          · rw [if_pos e]
          · rw [if_neg e, co_out (p := W) (by omega), Rat.zero_mul]
        · by_cases e : g + 1 < W.length
          · rw [if_pos e]
          · rw [if_neg e, co_out (p := W) (by omega), Rat.zero_mul]
inductive R_row_in : List PyData → PyData → Prop
  | mk (t : Rat) (A B : List Rat) (n : Nat) (hn : n ≤ 8) (h : ∀ k, k < n → StOk (wss t A B k) A B) : R_row_in [ld t A B, .int (n : Int)] (pd ((List.range (n + 1)).map fun k => co (wss t A B k) 0))
theorem wss_len (t : Rat) (A B : List Rat) : ∀ k, 1 ≤ (wss t A B k).length
  | 0 => Nat.le_refl 1
  | k + 1 => by simp [wss, stp]
theorem ok_row_in (T : Tx K mg) : Fn P w K mg base "row_in" ["ladder", "top"] 5 (spD K R_row_in) :=
  Fn.ofD T.d_row_in sc_row_in bd_row_in (fun _ _ h => by cases h; rfl) fun f cdv Ar outer s H E ds d hr hR => by
    cases hR with
    | mk t A B n hn h =>
      refine ss_cons (s1_unp3 2 3 4 (ev_var 0) ?_ (pg_tup rfl (pgs_cons (pg_name sc_row_in.nd rfl (Or.inl rfl)) (pgs_cons (pg_name sc_row_in.nd rfl (Or.inl rfl)) (pgs_cons (pg_name sc_row_in.nd rfl (Or.inl rfl)) pgs_nil)))))
      refine ss_cons (s1_par2 5 6 rfl sc_row_in.nd (by decide) (es_l (el_lst (ea_cons (ev_var 2) ea_nil)) rfl) (es_l (el_lst (ea_cons (ev_var 2) ea_nil)) rfl) ?_)
      refine ss_cons (s1_forN 7 sc_row_in.nd PassesOwn.never rfl (it_range n T.b_range (ev_var 1) (Nat.lt_of_le_of_lt hn (by decide))) (fun k δ => ∃ x, δ = [.arg (ld t A B), .arg (.int (n : Int)), .dat (fr t), .dat (pd A), .dat (pd B), .own (((List.range (k + 1)).map fun k => co (wss t A B k) 0).map fr), .own ((wss t A B k).map fr), x] ∧ x.keep = true) ⟨_, rfl, rfl⟩ ?_ ?_)
      · rintro k d δ hd ⟨x, rfl, hx⟩
        have hk : k < n := by
          have := (List.getElem?_eq_some_iff.mp hd).1
          rwa [rangeD_len] at this
        rw [rangeD_get hk] at hd
        cases hd
        refine ss_cons (s1_setL 6 sc_row_in.nd (el_call (ok_stepped T) (hr.mono (by decide)) (ea_cons (ev_var 6) (ea_cons (ev_var 3) (ea_cons (ev_var 4) ea_nil))) (.mk _ A B (h k hk))) (nolAll_fr _) ?_)
        obtain ⟨v, hv⟩ : ∃ v, (wss t A B (k + 1))[0]? = some v := there (wss_len t A B (k + 1))
        refine ss_one (s1_append 5 rfl ?_ (ev_ixL (d := fr v) (ds := (wss t A B (k + 1)).map fr) (ev_var 6) ev_int (atI_nat (j := 0) (map_fr_get hv))) (nol_fr _) ?_ ?_ ?_)
        · simp [keep_arg, keep_own, keep_int, keep_fr, keep_pd]
        · simp; omega
        · refine ⟨.dat (.int (k : Int)), ?_, keep_int _⟩
          rw [range_take_succ _ (k + 1), List.map_append]
          show [Sl.arg _, .arg _, .dat _, .dat _, .dat _, .own (_ ++ [_]), .own _, .dat _] = _
          rw [← co_get hv]
          rfl
        · exact pe_bm PySem.F.plainAttrs_list PySem.F.slot_list_append PySem.F.type_list_append mt_append (pv 5) (pa_cons c_e pa_nil)
      · rintro δ ⟨x, rfl, hx⟩
        rw [rangeD_len]
        exact ss_one (s1_ret (ev_tupL T.b_tuple (ev_var 5)) rfl)
inductive R_row_of : List PyData → PyData → Prop
  | mk (t : Rat) (A B : List Rat) (n : Nat) (hn : n ≤ 8) (h0 : LdOk t A B) (he : endB B = true) (h : ∀ k, k < n → StOk (wss t A B k) A B) : R_row_of [ld t A B, .int (n : Int)] (pd ((List.range (n + 1)).map fun k => co (wss t A B k) 0))
theorem ok_row_of (T : Tx K mg) : Fn P w K mg base "row_of" ["ladder", "top"] 7 (spD K R_row_of) :=
  Fn.ofD T.d_row_of sc_row_of bd_row_of (fun _ _ h => by cases h; rfl) fun f cdv Ar outer s H E ds d hr hR => by
    cases hR with
    | mk t A B n hn h0 he h =>
      refine ss_cons (s1_drop (ev_call (ok_need_ladder T) (hr.mono (by decide)) (ea_cons (ev_var 0) ea_nil) (.mk t A B h0)) ?_)
      refine ss_cons (s1_drop (ev_call (ok_need_top T) (hr.mono (by decide)) (ea_cons (ev_var 1) ea_nil) (.mk n (by omega))) ?_)
      refine ss_cons (s1_ifF (et_w (ew_andF (et_notT (et_valE (ev_call (ok_is_ended_in T) (hr.mono (by decide)) (ea_cons (ev_var 0) ea_nil) (.mk t A B)) he)))) (ss_nil ?_))
      exact ss_one (s1_ret (ev_call (ok_row_in T) (hr.mono (by decide)) (ea_cons (ev_var 0) (ea_cons (ev_var 1) ea_nil)) (.mk t A B n hn h)) rfl)
end
end RS

set_option Elab.async false
set_option linter.all false
set_option maxRecDepth 100000
set_option maxHeartbeats 4000000
/-! Rows of shares. -/
namespace RS
open PySem PySem.Spec PyProof.Rows L2
section
variable {P : Program} {w : World} {K : PySem.W.Frag} {mg : Str → Option Value} {base : Heap}
theorem po_R {p q : List Rat} (h : PoOk p q) : R_product_of [pd p, pd q] (pd (pmul p q)) := by
  have := h.l1; have := h.l2
  exact .mk p q h.hp h.hq h.hk h.ht (by omega) (by omega)
theorem sf_R {row p : List Rat} (h : SfOk row p) : R_sum_for [pd row, pd p] (fr (dot p row)) := .mk row p h.h1 h.h2 h.h3 h.h4 h.hz
inductive R_square_sum : List PyData → PyData → Prop
  | mk (row p : List Rat) (hp : PoOk p p) (hs : SfOk row (pmul p p)) : R_square_sum [pd row, pd p] (fr (dot (pmul p p) row))
theorem ok_square_sum (T : Tx K mg) : Fn P w K mg base "square_sum" ["row", "poly"] 6 (spD K R_square_sum) :=
  Fn.ofD T.d_square_sum sc_square_sum bd_square_sum (fun _ _ h => by cases h; rfl) fun f cdv Ar outer s H E ds d hr hR => by
    cases hR with
    | mk row p hp hs =>
      exact ss_one (s1_ret (ev_call (ok_sum_for T) (hr.mono (by decide)) (ea_cons (ev_var 0) (ea_cons (ev_call (ok_product_of T) (hr.mono (by decide)) (ea_cons (ev_var 1) (ea_cons (ev_var 1) ea_nil)) (po_R hp)) ea_nil)) (sf_R hs)) rfl)
inductive R_level_by : List PyData → List PyData → Prop
  | mk (row p : List Rat) (n : Rat) (h : LvOk row p n) : R_level_by [pd row, pd p, fr n] ([dot (pshf (pmul p p) 1) row / n].map fr)
theorem ok_level_by (T : Tx K mg) : Fn P w K mg base "level_by" ["row", "poly", "norm"] 6 (spL K R_level_by) :=
  Fn.ofL T.d_level_by sc_level_by bd_level_by (fun _ _ h => by cases h; rfl) fun f cdv Ar outer s H E ds d hr hR => by
    cases hR with
    | mk row p n h =>
      have := h.po.l1
      have l1 := pmul_len p p
      refine ss_cons (s1_set 3 sc_level_by.nd (ev_call (ok_raised_of T) (hr.mono (by decide)) (ea_cons (ev_call (ok_product_of T) (hr.mono (by decide)) (ea_cons (ev_var 1) (ea_cons (ev_var 1) ea_nil)) (po_R h.po)) (ea_cons ev_int ea_nil)) (.mk (pmul p p) 1 (by omega) (by omega))) ?_)
      exact ss_one (s1_retL (el_ifT (et_cmpE (ec_le (ev_lenT (ds := (pshf (pmul p p) 1).map fr) T.b_len (ev_var 3)) (ev_lenT (ds := row.map fr) T.b_len (ev_var 0))) (by rw [pdl, pdl]; have := h.le; simp; omega))
        (el_lst (ea_cons (ev_call (ok_div T) (hr.mono (by decide)) (ea_cons (ev_call (ok_sum_for T) (hr.mono (by decide)) (ea_cons (ev_var 0) (ea_cons (ev_var 3) ea_nil)) (sf_R h.sf)) (ea_cons (ev_var 2) ea_nil)) (.mk _ _ h.fs h.fn h.n0)) ea_nil))) rfl)
def bres (Pk : Nat → List Rat) (Hk Ak : Nat → Rat) (m nl : Nat) : PyData := .tuple [.list ((List.range (m + 1)).map fun k => pd (Pk k)), .list (((List.range (m + 1)).map Hk).map fr), .list (((List.range nl).map Ak).map fr)]
inductive R_built : List PyData → PyData → Prop
  | mk (row : List Rat) (Pk : Nat → List Rat) (Hk Ak : Nat → Rat) (m : Nat) (stop : Bool) (h : BtOk row Pk Hk Ak m stop) : R_built [pd row] (bres Pk Hk Ak m (if stop then m + 1 else m))
theorem last_range {α : Type} (f : Nat → α) (k : Nat) : atI ((List.range (k + 1)).map f) (-1) = some (f k) := atI_m1 (by rw [List.range_succ, List.map_append]; simp)
theorem last2_range {α : Type} (f : Nat → α) (k : Nat) : atI ((List.range (k + 2)).map f) (-2) = some (f k) := by
  rw [List.range_succ, List.range_succ, List.map_append, List.map_append, List.append_assoc]
  exact atI_m2
theorem frs_last (f : Nat → Rat) (k : Nat) : atI (((List.range (k + 1)).map f).map fr) (-1) = some (fr (f k)) := by
  rw [List.map_map]; exact last_range _ k
theorem frs_last2 (f : Nat → Rat) (k : Nat) : atI (((List.range (k + 2)).map f).map fr) (-2) = some (fr (f k)) := by
  rw [List.map_map]; exact last2_range _ k
theorem ok_built (T : Tx K mg) : Fn P w K mg base "built" ["row"] 7 (spD K R_built) :=
  Fn.ofD T.d_built sc_built bd_built (fun _ _ h => by cases h; rfl) fun f cdv Ar outer s H E ds d hr hR => by
    cases hR with
    | mk row Pk Hk Ak m stop h =>
      obtain ⟨aN, mN, dN⟩ := T.c_NOUGHT
      obtain ⟨aO, mO, dO⟩ := T.c_ONE
      obtain ⟨l, hrow⟩ := h.h0
      have hm8 := h.lm
      refine ss_cons (s1_par4 1 2 3 4 (t1 := .own [pd (Pk 0)]) (t2 := .own [fr (Hk 0)]) (t3 := .own []) (t4 := .dat (pd [])) (es_l (el_lst (ea_cons (ev_cst mO ?_) ea_nil)) ?_) (es_l (el_lst (ea_cons (ev_ixT (ds := row.map fr) (ev_var 0) ev_int ?_) ea_nil)) rfl) (es_l (el_lst ea_nil) rfl) (es_d (ev_tup ea_nil)) ?_ ?_)
      · rw [h.p0]; exact dO
      · simp [nolAll, nol_pd]
      · rw [hrow]; exact atI0
      rotate_left
      · exact pg_tup rfl (pgs_cons (pg_name sc_built.nd rfl (Or.inl rfl)) (pgs_cons (pg_name sc_built.nd rfl (Or.inl rfl)) (pgs_cons (pg_name sc_built.nd rfl (Or.inl rfl)) (pgs_cons (pg_name sc_built.nd rfl (Or.inl rfl)) pgs_nil))))
      refine ss_cons (s1_while PassesOwn.never (fun n δ => ∃ k x y z, n = m - k ∧ k ≤ m ∧ δ = [.arg (pd row), .own ((List.range (k + 1)).map fun k => pd (Pk k)), .own (((List.range (k + 1)).map Hk).map fr), .own (((List.range k).map Ak).map fr), .dat (pd (Qk Pk k)), x, y, z] ∧ x.keep = true ∧ y.keep = true ∧ z.keep = true) m ⟨0, _, _, _, rfl, Nat.zero_le _, rfl, rfl, rfl, rfl⟩ ?_)
      rintro n δ ⟨k, x, y, z, rfl, hkm, rfl, hx, hy, hz⟩
      have hfk : Fz (Hk k) := h.fz k hkm
      refine ⟨decide (0 < Hk k), et_val (ev_call (ok_is_under T) (hr.mono (by decide)) (ea_cons (ev_cst mN dN) (ea_cons (ev_ixL (ev_var 2) (ev_neg ev_int) (frs_last Hk k)) ea_nil)) (.mk 0 (Hk k) fz_zero hfk)), fun hb => ?_, fun hb => ?_⟩
      · have hpos : 0 < Hk k := of_decide_eq_true hb
        have hcase : k < m ∨ (k = m ∧ stop = true) := by
          by_cases e : k = m
          · subst e
            refine .inr ⟨rfl, ?_⟩
            have := h.last
            cases stop with
            | true => rfl
            | false =>
              rw [if_neg Bool.false_ne_true] at this
              rw [this] at hpos
              exact absurd hpos (by decide)
          · exact .inl (by omega)
        obtain ⟨hlv, hA⟩ := h.lv k hcase
        refine ⟨fun δ => k < m ∧ ∃ x y z, δ = [.arg (pd row), .own ((List.range (k + 1 + 1)).map fun k => pd (Pk k)), .own (((List.range (k + 1 + 1)).map Hk).map fr), .own (((List.range (k + 1)).map Ak).map fr), .dat (pd (Qk Pk (k + 1))), x, y, z] ∧ x.keep = true ∧ y.keep = true ∧ z.keep = true, fun δ ⟨hk', x, y, z, e, a, b, c⟩ => ⟨m - (k + 1), by omega, k + 1, x, y, z, rfl, hk', e, a, b, c⟩, ?_⟩
        refine ss_cons (s1_setL 5 sc_built.nd (el_call (ok_level_by T) (hr.mono (by decide)) (ea_cons (ev_var 0) (ea_cons (ev_ixL (ev_var 1) (ev_neg ev_int) (last_range _ k)) (ea_cons (ev_ixL (ev_var 2) (ev_neg ev_int) (frs_last Hk k)) ea_nil))) (.mk row (Pk k) (Hk k) hlv)) (nolAll_fr _) ?_)
        refine ss_cons (s1_extend 3 5 rfl rfl ?_ ?_ ?_ ?_)
        · simp [keep_arg, keep_own, keep_pd, hy, hz]
        · simp; omega
        rotate_left
        · exact pe_bm PySem.F.plainAttrs_list PySem.F.slot_list_extend PySem.F.type_list_extend mt_extend (pv 3) (pa_cons (pv 5) pa_nil)
        have eL : ((List.range k).map Ak).map fr ++ [dot (pshf (pmul (Pk k) (Pk k)) 1) row / Hk k].map fr = ((List.range (k + 1)).map Ak).map fr := by
          rw [range_take_succ, List.map_append, ← hA]
        show SS _ _ [.arg (pd row), .own _, .own _, .own (((List.range k).map Ak).map fr ++ [dot (pshf (pmul (Pk k) (Pk k)) 1) row / Hk k].map fr), .dat _, .own _, y, z] _ _
        rw [eL, ← hA]
        have hlen : ((List.range (k + 1)).map fun k => pd (Pk k)).length = k + 1 := by simp
        have hcl : CMul 2 (((List.range (k + 1)).map fun k => pd (Pk k)).length : Int) := .inl ⟨by decide, by decide⟩
        have t1 : ET (cx0 P w K mg base N_built "built" s_built f cdv Ar outer s H E) H [.arg (pd row), .own ((List.range (k + 1)).map fun k => pd (Pk k)), .own (((List.range (k + 1)).map Hk).map fr), .own (((List.range (k + 1)).map Ak).map fr), .dat (pd (Qk Pk k)), .own ([Ak k].map fr), y, z]
            (match (defBody s_built) with | [_, .While _ [_, _, .If c _ _ _, _, _, _, _, _] _ _, _] => c | _ => .Name "x" ⟨0,0,0,0⟩) (decide (row.length ≤ 2 * (k + 1))) := by
          refine et_w (ew_orF (et_cmpE (ec_eqFs (r := [Ak k]) (s := []) hr.units (ev_var 5) (EL.ev (el_lst ea_nil))) (by simp)) (ew_or1 (et_cmpE (ec_ge (ev_mulS ev_int (ev_lenL (ds := (List.range (k + 1)).map fun k => pd (Pk k)) T.b_len (ev_var 1)) (by exact hcl)) (ev_lenT (ds := row.map fr) T.b_len (ev_var 0))) ?_)))
          rw [pdl, hlen]
          apply decide_eq_decide.mpr
          omega
        refine ss_cons (s1_if t1 (fun hret => ?_) (fun hret => ?_))
        · have hge := of_decide_eq_true hret
          have hk' : k = m ∧ stop = true := by
            rcases hcase with e | e
            · have := h.go k e; omega
            · exact e
          obtain ⟨rfl, rfl⟩ := hk'
          refine ss_one (s1_ret (ev_tup (ea_cons (ev_var 1) (ea_cons (ev_var 2) (ea_cons (ev_var 3) ea_nil)))) ?_)
          rfl
        · have hlt := of_decide_eq_false hret
          have hk' : k < m := by
            rcases hcase with e | ⟨e, e2⟩
            · exact e
            · have := h.fin e2; omega
          obtain ⟨hnx, hP⟩ := h.nx k hk'
          obtain ⟨hpo, hsf, hH⟩ := h.sq k hk'
          refine ss_nil ?_
          refine ss_cons (s1_set 6 sc_built.nd (d := fr (Bk Hk k)) (ev_if (et_cmp (ec_gt (ev_lenL (ds := ((List.range (k + 1)).map Hk).map fr) T.b_len (ev_var 2)) ev_int)) (fun hg => ?_) fun hg => ?_) ?_)
          · have hk0 : 0 < k := by
              have := of_decide_eq_true hg
              simp at this; omega
            obtain ⟨j, rfl⟩ : ∃ j, k = j + 1 := ⟨k - 1, by omega⟩
            have hj : 0 < Hk j := h.pos j (by omega)
            refine EV.is (ev_call (ok_div T) (hr.mono (by decide)) (ea_cons (ev_ixL (ev_var 2) (ev_neg ev_int) (frs_last Hk (j + 1))) (ea_cons (ev_ixL (ev_var 2) (ev_neg ev_int) (frs_last2 Hk j)) ea_nil)) (.mk _ _ hfk (h.fz j (by omega)) (fun e => by rw [e] at hj; exact absurd hj (by decide)))) ?_
            simp [Bk]
          · have hk0 : k = 0 := by
              have := of_decide_eq_false hg
              simp at this; omega
            exact EV.is (ev_cst mN dN) (by simp [Bk, hk0])
          · refine ss_cons (s1_set 7 sc_built.nd (ev_call (ok_next_rung T) (hr.mono (by decide)) (ea_cons (ev_ixL (ev_var 1) (ev_neg ev_int) (last_range _ k)) (ea_cons (ev_var 4) (ea_cons (ev_ixL (ds := [Ak k].map fr) (ev_var 5) ev_int atI0) (ea_cons (ev_var 6) ea_nil)))) (.mk _ _ _ _ hnx)) ?_)
            refine ss_cons (s1_set 4 sc_built.nd (ev_ixL (ev_var 1) (ev_neg ev_int) (last_range _ k)) ?_)
            refine ss_cons (s1_append 1 rfl ?_ (ev_var 7) (nol_pd _) ?_ ?_ ?_)
            · simp [keep_arg, keep_own, keep_pd, keep_fr]
            · simp; omega
            · refine ss_one (s1_append 2 rfl ?_ (ev_call (ok_square_sum T) (hr.mono (by decide)) (ea_cons (ev_var 0) (ea_cons (ev_var 7) ea_nil)) (.mk row _ (hP ▸ hpo) (hP ▸ hsf))) (nol_fr _) ?_ ?_ ?_)
              · simp [keep_arg, keep_own, keep_pd, keep_fr]
              · simp; omega
              · refine ⟨hk', .own ([Ak k].map fr), .dat (fr (Bk Hk k)), .dat (pd (nxt (Pk k) (Qk Pk k) (Ak k) (Bk Hk k))), ?_, rfl, rfl, keep_pd _⟩
                rw [range_take_succ _ (k + 1), range_take_succ Hk (k + 1), List.map_append, hH, hP]
                rfl
              · exact pe_bm PySem.F.plainAttrs_list PySem.F.slot_list_append PySem.F.type_list_append mt_append (pv 2) (pa_cons c_e pa_nil)
            · exact pe_bm PySem.F.plainAttrs_list PySem.F.slot_list_append PySem.F.type_list_append mt_append (pv 1) (pa_cons c_e pa_nil)
      · have hnp := of_decide_eq_false hb
        have hk' : k = m ∧ stop = false := by
          by_cases e : k = m
          · refine ⟨e, ?_⟩
            have := h.last
            cases stop with
            | false => rfl
            | true => rw [if_pos rfl, ← e] at this; exact absurd this hnp
          · exact absurd (h.pos k (by omega)) hnp
        obtain ⟨rfl, rfl⟩ := hk'
        exact ss_one (s1_ret (ev_tup (ea_cons (ev_var 1) (ea_cons (ev_var 2) (ea_cons (ev_var 3) ea_nil)))) rfl)
inductive R_misfits : List PyData → List PyData → Prop
  | mk (row p : List Rat) (h : MfOk row p) : R_misfits [pd row, pd p] []
theorem ok_misfits (T : Tx K mg) : Fn P w K mg base "misfits" ["row", "poly"] 6 (spL K R_misfits) :=
  Fn.ofL T.d_misfits sc_misfits bd_misfits (fun _ _ h => by cases h; rfl) fun f cdv Ar outer s H E ds d hr hR => by
    cases hR with
    | mk row p h =>
      obtain ⟨aN, mN, dN⟩ := T.c_NOUGHT
      have := h.lp; have := h.lr; have := h.le
      refine ss_one (s1_retL (EL.is (el_lcI 2 sc_misfits.nd rfl rfl (it_range (row.length + 1 - p.length) T.b_range (EV.is (ev_sub (ev_add (ev_lenT (ds := row.map fr) T.b_len (ev_var 0)) ev_int) (ev_lenT (ds := p.map fr) T.b_len (ev_var 1))) ?_) ?_) ?_ ?_ (fun _ => []) rfl (fun _ _ => rfl) ?_ ?_) rfl) rfl)
      · rw [pdl, pdl]; congr 1; omega
      · exact Nat.lt_of_le_of_lt (show row.length + 1 - p.length ≤ 10 by omega) (by decide)
      · exact blkOk_by (N := N_misfits) (sc := defScope s_misfits) (by decide +kernel)
      · exact fun _ _ _ _ _ => pg_name sc_misfits.nd rfl (Or.inl rfl)
      · rw [rangeD_len]; omega
      · intro k d hd
        have hk : k < row.length + 1 - p.length := by
          have := (List.getElem?_eq_some_iff.mp hd).1
          rwa [rangeD_len] at this
        rw [rangeD_get hk] at hd
        cases hd
        obtain ⟨hs, h0⟩ := h.h k (by omega)
        refine ⟨false, fun s Hb C cl fp => ?_, fun hb => (nomatch hb), fun _ => rfl⟩
        exact et_cmpE (ec_neFr (r := dot (pshf p k) row) (s := 0) hr.units (ev_call (ok_sum_for T) (hr.mono (by decide)) (ea_cons (ev_var 0) (ea_cons (ev_call (ok_raised_of T) (hr.mono (by decide)) (ea_cons (ev_var 1) (ea_cons (ev_var 2) ea_nil)) (.mk p k (by omega) (by omega))) ea_nil)) (sf_R hs)) (ev_cst mN dN)) (by simp [h0])
def plad (Hk Ak : Nat → Rat) (m nl : Nat) : PyData := ld (Hk 0) ((List.range nl).map Ak) ((List.range m).map fun k => Hk (k + 1) / Hk k)
structure PaOk (row : List Rat) (Pk : Nat → List Rat) (Hk Ak : Nat → Rat) (m : Nat) (stop : Bool) : Prop where
  b : BtOk row Pk Hk Ak m stop
  mf : stop = false → MfOk row (Pk m)
inductive R_paper_in : List PyData → PyData → Prop
  | mk (row : List Rat) (Pk : Nat → List Rat) (Hk Ak : Nat → Rat) (m : Nat) (stop : Bool) (h : PaOk row Pk Hk Ak m stop) : R_paper_in [pd row] (.tuple [.str "ladder", plad Hk Ak m (if stop then m + 1 else m)])
theorem ok_paper_in (T : Tx K mg) : Fn P w K mg base "paper_in" ["row"] 8 (spD K R_paper_in) :=
  Fn.ofD T.d_paper_in sc_paper_in bd_paper_in (fun _ _ h => by cases h; rfl) fun f cdv Ar outer s H E ds d hr hR => by
    cases hR with
    | mk row Pk Hk Ak m stop h =>
      obtain ⟨aN, mN, dN⟩ := T.c_NOUGHT
      obtain ⟨tk, ht⟩ := T.c_LADDER
      obtain ⟨l, hrow⟩ := h.b.h0
      have hm8 := h.b.lm
      have hfm := h.b.fz m (Nat.le_refl _)
      have hge : ¬ Hk m < 0 := by
        have := h.b.last
        cases stop with
        | true => rw [if_pos rfl] at this; exact Rat.not_lt.mpr (Rat.le_of_lt this)
        | false => rw [if_neg Bool.false_ne_true] at this; rw [this]; exact Rat.lt_irrefl
      refine ss_cons (s1_unp3 1 2 3 (ev_call (ok_built T) (hr.mono (by decide)) (ea_cons (ev_var 0) ea_nil) (.mk row Pk Hk Ak m stop h.b)) ?_ (pg_tup rfl (pgs_cons (pg_name sc_paper_in.nd rfl (Or.inl rfl)) (pgs_cons (pg_name sc_paper_in.nd rfl (Or.inl rfl)) (pgs_cons (pg_name sc_paper_in.nd rfl (Or.inl rfl)) pgs_nil)))))
      refine ss_cons (s1_ifF (et_valE (ev_call (ok_is_under T) (hr.mono (by decide)) (ea_cons (ev_ixL (ev_var 2) (ev_neg ev_int) (frs_last Hk m)) (ea_cons (ev_cst mN dN) ea_nil)) (.mk (Hk m) 0 hfm fz_zero)) (by simp [hge])) (ss_nil ?_))
      refine ss_cons (s1_ifF ?_ (ss_nil ?_))
      · have hc : ∀ b, decide (Hk m = 0) = b → EC (cx0 P w K mg base N_paper_in "paper_in" s_paper_in f cdv Ar outer s H E) H [.arg (pd row), .dat (.list ((List.range (m + 1)).map fun k => pd (Pk k))), .dat (.list (((List.range (m + 1)).map Hk).map fr)), .dat (.list (((List.range (if stop then m + 1 else m)).map Ak).map fr)), .non, .non, .non] .Eq
            (match (defBody s_paper_in) with | [_, _, .If (.BoolOp _ (.Compare a _ _ _ :: _) _) _ _ _, _, _] => a | _ => .Name "x" ⟨0,0,0,0⟩) (match (defBody s_paper_in) with | [_, _, .If (.BoolOp _ (.Compare _ _ [b] _ :: _) _) _ _ _, _, _] => b | _ => .Name "x" ⟨0,0,0,0⟩) (.bool b) := by
          rintro b rfl
          exact ec_eqFr (r := Hk m) (s := 0) hr.units (ev_ixL (ev_var 2) (ev_neg ev_int) (frs_last Hk m)) (ev_cst mN dN)
        cases hst : stop with
        | true =>
          subst hst
          have hp : 0 < Hk m := by have := h.b.last; rwa [if_pos rfl] at this
          exact et_w (ew_andF (et_cmp (hc false (decide_eq_false fun e => by rw [e] at hp; exact absurd hp (by decide)))))
        | false =>
          subst hst
          have hz : Hk m = 0 := by have := h.b.last; rwa [if_neg Bool.false_ne_true] at this
          refine et_w (ew_andT (et_cmp (hc true (decide_eq_true hz))) (ew_and1 ?_))
          exact et_cmpE (ec_neFs (r := []) (s := []) hr.units (EL.ev (el_call (ok_misfits T) (hr.mono (by decide)) (ea_cons (ev_var 0) (ea_cons (ev_ixL (ev_var 1) (ev_neg ev_int) (last_range _ m)) ea_nil)) (.mk row (Pk m) (h.mf rfl)))) (EL.ev (el_lst ea_nil))) (by simp)
      · refine ss_cons (s1_setLcT 4 5 6 sc_paper_in.nd rfl (by decide) (it_zipL (ds := ((List.range (m + 1)).map Hk).map fr) (es := (((List.range (m + 1)).map Hk).map fr).drop 1) T.b_zip (ev_var 2) (EV.is (EL.ev (el_slLfrom (ev_var 2) ev_int)) (by rw [show (1 : Int) = ((1 : Nat) : Int) from rfl, cutD_from]))) ?_ ?_ (es := ((List.range m).map fun k => Hk (k + 1) / Hk k).map fr) ?_ (nolAll_fr _) ?_ ?_ ?_ ?_)
        · exact blkOk_by (N := N_paper_in) (sc := defScope s_paper_in) (by decide +kernel)
        · exact fun _ _ _ _ _ => pg_tup rfl (pgs_cons (pg_name sc_paper_in.nd rfl (Or.inl rfl)) (pgs_cons (pg_name sc_paper_in.nd rfl (Or.inl rfl)) pgs_nil))
        · rw [zipD_len]; simp
        · rw [zipD_len]; simp; omega
        · intro k d e g1 g2
          obtain ⟨a, b, e1, e2, rfl⟩ := zipD_inv g1
          have hk : k < m := by
            have := (List.getElem?_eq_some_iff.mp g2).1
            simpa using this
          rw [List.getElem?_drop] at e2
          rw [get_range (by omega)] at e1
          rw [show 1 + k = k + 1 from Nat.add_comm 1 k, get_range (by omega)] at e2
          rw [get_range hk] at g2
          cases e1; cases e2; cases g2
          have hp := h.b.pos k hk
          refine ⟨_, _, rfl, fun s Hb C cl fp => ?_⟩
          exact ev_call (ok_div T) (hr.mono (by decide)) (ea_cons (ev_var 6) (ea_cons (ev_var 5) ea_nil)) (.mk _ _ (h.b.fz (k + 1) (by omega)) (h.b.fz k (by omega)) (fun e => by rw [e] at hp; exact absurd hp (by decide)))
        · refine ss_one (s1_ret (ev_tup (ea_cons (ev_cstS ht) (ea_cons (ev_tup (ea_cons (ev_ixT (ds := row.map fr) (d := fr (Hk 0)) (ev_var 0) ev_int ?_) (ea_cons (ev_tupL T.b_tuple (ev_var 3)) (ea_cons (ev_tupL T.b_tuple (ev_var 4)) ea_nil)))) ea_nil))) ?_)
          · rw [hrow]; exact atI0
          · rfl
        · exact sw_true rfl rfl rfl (by decide +kernel)
structure RoOk (row : List Rat) (Pk : Nat → List Rat) (Hk Ak : Nat → Rat) (m : Nat) (stop : Bool) : Prop where
  p : PaOk row Pk Hk Ak m stop
  pos : 0 < Hk 0
theorem ro_R {row : List Rat} {Pk : Nat → List Rat} {Hk Ak : Nat → Rat} {m : Nat} {stop : Bool} (h : RoOk row Pk Hk Ak m stop) : R_need_row [pd row] (pd row) := by
  obtain ⟨l, hl⟩ := h.p.b.h0
  have := h.p.b.lr
  rw [hl] at this ⊢
  exact .mk _ l h.pos (h.p.b.fz 0 (Nat.zero_le _)) (by simpa using this)
inductive R_is_of_share : List PyData → PyData → Prop
  | mk (row : List Rat) (Pk : Nat → List Rat) (Hk Ak : Nat → Rat) (m : Nat) (stop : Bool) (h : RoOk row Pk Hk Ak m stop) : R_is_of_share [pd row] (.bool true)
theorem ok_is_of_share (T : Tx K mg) : Fn P w K mg base "is_of_share" ["row"] 9 (spD K R_is_of_share) :=
  Fn.ofD T.d_is_of_share sc_is_of_share bd_is_of_share (fun _ _ h => by cases h; rfl) fun f cdv Ar outer s H E ds d hr hR => by
    cases hR with
    | mk row Pk Hk Ak m stop h =>
      obtain ⟨tk, ht⟩ := T.c_LADDER
      exact ss_one (s1_ret (ev_cmpE (ec_eqS (ev_ix0 (ev_call (ok_paper_in T) (hr.mono (by decide)) (ea_cons (ev_call (ok_need_row T) (hr.mono (by decide)) (ea_cons (ev_var 0) ea_nil) (ro_R h)) ea_nil) (.mk row Pk Hk Ak m stop h.p))) (ev_cstS ht)) (by simp)) rfl)
inductive R_need_of_share : List PyData → PyData → Prop
  | mk (row : List Rat) (Pk : Nat → List Rat) (Hk Ak : Nat → Rat) (m : Nat) (stop : Bool) (h : PaOk row Pk Hk Ak m stop) : R_need_of_share [pd row] (plad Hk Ak m (if stop then m + 1 else m))
theorem ok_need_of_share (T : Tx K mg) : Fn P w K mg base "need_of_share" ["row"] 9 (spD K R_need_of_share) :=
  Fn.ofD T.d_need_of_share sc_need_of_share bd_need_of_share (fun _ _ h => by cases h; rfl) fun f cdv Ar outer s H E ds d hr hR => by
    cases hR with
    | mk row Pk Hk Ak m stop h =>
      obtain ⟨tk, ht⟩ := T.c_LADDER
      refine ss_cons (s1_set 1 sc_need_of_share.nd (ev_call (ok_paper_in T) (hr.mono (by decide)) (ea_cons (ev_var 0) ea_nil) (.mk row Pk Hk Ak m stop h)) ?_)
      refine ss_cons (s1_ifF (et_cmpE (ec_neS (ev_ix0 (ev_var 1)) (ev_cstS ht)) (by simp)) (ss_nil ?_))
      exact ss_one (s1_ret (ev_ix1 (ev_var 1)) rfl)
inductive R_ladder_of : List PyData → PyData → Prop
  | mk (row : List Rat) (Pk : Nat → List Rat) (Hk Ak : Nat → Rat) (m : Nat) (stop : Bool) (h : RoOk row Pk Hk Ak m stop) : R_ladder_of [pd row] (plad Hk Ak m (if stop then m + 1 else m))
theorem ok_ladder_of (T : Tx K mg) : Fn P w K mg base "ladder_of" ["row"] 10 (spD K R_ladder_of) :=
  Fn.ofD T.d_ladder_of sc_ladder_of bd_ladder_of (fun _ _ h => by cases h; rfl) fun f cdv Ar outer s H E ds d hr hR => by
    cases hR with
    | mk row Pk Hk Ak m stop h =>
      exact ss_one (s1_ret (ev_call (ok_need_of_share T) (hr.mono (by decide)) (ea_cons (ev_call (ok_need_row T) (hr.mono (by decide)) (ea_cons (ev_var 0) ea_nil) (ro_R h)) ea_nil) (.mk row Pk Hk Ak m stop h.p)) rfl)
end
end RS

set_option Elab.async false
set_option linter.all false
set_option maxRecDepth 100000
set_option maxHeartbeats 4000000
/-! The law's own plain defs. -/
namespace RS
open PySem PySem.Spec PyProof.Rows L2
section
variable {P : Program} {w : World} {K : PySem.W.Frag} {mg : Str → Option Value} {base : Heap}
inductive R_ratio : List PyData → PyData → Prop
  | mk (a b : Int) (hb : 0 < b) (hz : b.natAbs < 2 ^ 9000) : R_ratio [.int a, .int b] (fr (Rat.divInt a b))
theorem ok_ratio (T : Tx K mg) : Fn P w K mg base "_law_ratio" ["_law_top", "_law_bottom"] 1 (spD K R_ratio) :=
  Fn.ofD T.d__law_ratio sc__law_ratio bd__law_ratio (fun _ _ h => by cases h; rfl) fun f cdv A outer s H E ds d hr hR => by
    cases hR with
    | mk a b hb hz =>
      refine ss_cons (s1_par2 2 3 rfl sc__law_ratio.nd (by decide) (es_d (ev_abs T.b_abs (ev_var 0))) (es_d (ev_var 1)) ?_)
      refine ss_cons (s1_while PassesOwn.never (fun m δ => ∃ x y : Nat, δ = [.arg (.int a), .arg (.int b), .dat (.int (x : Int)), .dat (.int (y : Int))] ∧ m = y ∧ Nat.gcd x y = Int.gcd a b) b.natAbs ⟨a.natAbs, b.natAbs, by rw [show ((b.natAbs : Nat) : Int) = b by omega]; rfl, rfl, rfl⟩ ?_)
      rintro m δ ⟨x, y, rfl, rfl, hg⟩
      refine ⟨_, et_cmp (ec_neI (ev_var 3) ev_int), fun hb' => ?_, fun hb' => ?_⟩
      · have hy : 0 < m := by
          have : ¬ ((m : Int) = 0) := by simpa using hb'
          omega
        refine ⟨fun δ => ∃ x y : Nat, δ = [.arg (.int a), .arg (.int b), .dat (.int (x : Int)), .dat (.int (y : Int))] ∧ y < m ∧ Nat.gcd x y = Int.gcd a b, fun δ ⟨x', y', e, l, g⟩ => ⟨y', l, x', y', e, rfl, g⟩, ?_⟩
        refine ss_one (s1_par2 2 3 rfl sc__law_ratio.nd (by decide) (es_d (ev_var 3)) (es_d (ev_mod (ev_intc T.b_int (ev_var 2)) (ev_var 3) (by omega))) ?_)
        exact ⟨m, x % m, rfl, Nat.mod_lt _ hy, by rw [gcd_step]; exact hg⟩
      · have hy : m = 0 := by
          have : (m : Int) = 0 := by simpa using hb'
          omega
        subst hy
        rw [Nat.gcd_zero_right] at hg
        subst hg
        have hc := cdiv_gcd (a := a) (b := b) (by omega) hz
        refine ss_one (s1_ret (ev_tup (ea_cons (ev_div (ev_var 0) (ev_var 2) (by exact hc)) (ea_cons (ev_div (ev_var 1) (ev_var 2) (by exact hc)) ea_nil))) ?_)
        show _ = fr (Rat.divInt a b)
        unfold fr
        rw [made_num hb, made_den hb]
theorem ok_plus (T : Tx K mg) : Fn P w K mg base "_law_plus" ["_law_one", "_law_other"] 3 (spD K R_add) :=
  Fn.ofD T.d__law_plus sc__law_plus bd__law_plus (fun _ _ h => by cases h; rfl) fun f cdv A outer s H E ds d hr hR => by
    cases hR with
    | mk r t h1 h2 =>
      exact ss_one (s1_ret (EV.is (ev_call (ok_ratio T) (hr.mono (by decide)) (ea_cons (ev_add (ev_mul (ev_ix0 (ev_var 0)) (ev_ix1 (ev_var 1)) (h1.nd h2)) (ev_mul (ev_ix0 (ev_var 1)) (ev_ix1 (ev_var 0)) (h2.nd h1))) (ea_cons (ev_mul (ev_ix1 (ev_var 0)) (ev_ix1 (ev_var 1)) (h1.dd h2)) ea_nil)) (.mk _ _ (Int.mul_pos (den_pos' r) (den_pos' t)) (dd9 h1 h2))) (by rw [add_made])) rfl)
theorem ok_times (T : Tx K mg) : Fn P w K mg base "_law_times" ["_law_one", "_law_other"] 3 (spD K R_mul) :=
  Fn.ofD T.d__law_times sc__law_times bd__law_times (fun _ _ h => by cases h; rfl) fun f cdv A outer s H E ds d hr hR => by
    cases hR with
    | mk r t h1 h2 =>
      exact ss_one (s1_ret (EV.is (ev_call (ok_ratio T) (hr.mono (by decide)) (ea_cons (ev_mul (ev_ix0 (ev_var 0)) (ev_ix0 (ev_var 1)) (h1.nn h2)) (ea_cons (ev_mul (ev_ix1 (ev_var 0)) (ev_ix1 (ev_var 1)) (h1.dd h2)) ea_nil)) (.mk _ _ (Int.mul_pos (den_pos' r) (den_pos' t)) (dd9 h1 h2))) (by rw [mul_made])) rfl)
theorem ok_under (T : Tx K mg) : Fn P w K mg base "_law_under" ["_law_one", "_law_other"] 1 (spD K R_is_under) :=
  Fn.ofD T.d__law_under sc__law_under bd__law_under (fun _ _ h => by cases h; rfl) fun f cdv A outer s H E ds d hr hR => by
    cases hR with
    | mk r t h1 h2 =>
      exact ss_one (s1_ret (ev_cmpE (ec_lt (ev_mul (ev_ix0 (ev_var 0)) (ev_ix1 (ev_var 1)) (h1.nd h2)) (ev_mul (ev_ix0 (ev_var 1)) (ev_ix1 (ev_var 0)) (h2.nd h1))) (by congr 1; exact decide_eq_decide.mpr (Rat.lt_iff r t).symm)) rfl)
theorem ok_lsum (T : Tx K mg) : Fn P w K mg base "_law_sum" ["_law_some"] 4 (spD K R_sum_in) :=
  Fn.ofD T.d__law_sum sc__law_sum bd__law_sum (fun _ _ h => by cases h; rfl) fun f cdv A outer s H E ds d hr hR => by
    cases hR with
    | mk l h1 h2 =>
      refine ss_cons (s1_set 1 sc__law_sum.nd (d := fr 0) (ev_tup (ea_cons ev_int (ea_cons ev_int ea_nil))) ?_)
      refine ss_cons (s1_forN 2 sc__law_sum.nd PassesOwn.never rfl (it_listA 0 (ds := l.map fr) rfl rfl (Or.inl rfl)) (fun k δ => ∃ x, δ = [.arg (.list (l.map fr)), .dat (fr (l.take k).sum), x]) ⟨_, rfl⟩ ?_ ?_)
      · rintro k d δ hk ⟨x, rfl⟩
        obtain ⟨r, hr', rfl⟩ := map_one hk
        refine ss_one (s1_set 1 sc__law_sum.nd (ev_call (ok_plus T) (hr.mono (by decide)) (ea_cons (ev_var 1) (ea_cons (ev_var 2) ea_nil)) (.mk _ _ (h2 k) (h1 r (List.mem_of_getElem? hr')))) ?_)
        exact ⟨_, by rw [sum_take_succ l k r hr']; rfl⟩
      · rintro δ ⟨x, rfl⟩
        rw [List.length_map, List.take_length]
        exact ss_one (s1_ret (ev_var 1) rfl)
theorem ok_lpower (T : Tx K mg) : Fn P w K mg base "_law_power" ["_law_one", "_law_many"] 4 (spD K R_power_in) :=
  Fn.ofD T.d__law_power sc__law_power bd__law_power (fun _ _ h => by cases h; rfl) fun f cdv A outer s H E ds d hr hR => by
    cases hR with
    | mk r n h1 h2 hn =>
      refine ss_cons (s1_set 2 sc__law_power.nd (d := fr 1) (ev_tup (ea_cons ev_int (ea_cons ev_int ea_nil))) ?_)
      refine ss_cons (s1_forN 3 sc__law_power.nd PassesOwn.never rfl (it_range n T.b_range (ev_var 1) (by omega)) (fun k δ => ∃ x, δ = [.arg (fr r), .arg (.int (n : Int)), .dat (fr (r ^ k)), x]) ⟨_, by rw [Rat.pow_zero]; rfl⟩ ?_ ?_)
      · rintro k d δ hk ⟨x, rfl⟩
        have hkn : k < n := by
          have := (List.getElem?_eq_some_iff.mp hk).1
          rwa [rangeD_len] at this
        refine ss_one (s1_set 2 sc__law_power.nd (ev_call (ok_times T) (hr.mono (by decide)) (ea_cons (ev_var 2) (ea_cons (ev_var 0) ea_nil)) (.mk _ _ (h2 k hkn) h1)) ?_)
        exact ⟨_, by rw [Rat.pow_succ]; rfl⟩
      · rintro δ ⟨x, rfl⟩
        rw [rangeD_len]
        exact ss_one (s1_ret (ev_var 2) rfl)
theorem ok_lmoments (T : Tx K mg) : Fn P w K mg base "_law_moments" ["_law_share_so", "_law_top"] 5 (spD K R_moments_in) :=
  Fn.ofD T.d__law_moments sc__law_moments bd__law_moments (fun _ _ h => by cases h; rfl) fun f cdv A outer s H E ds d hr hR => by
    cases hR with
    | mk S n h hn hs =>
      refine ss_cons (s1_setL 2 sc__law_moments.nd (el_lst ea_nil) rfl ?_)
      refine ss_cons (s1_forN 3 sc__law_moments.nd PassesOwn.never rfl (it_range (n + 1) T.b_range (EV.is (ev_add (ev_var 1) ev_int) (by simp)) (Nat.lt_of_le_of_lt (show n + 1 ≤ 9 by omega) (by decide))) (fun k δ => ∃ x y z, δ = [.arg (sd S), .arg (.int (n : Int)), .own (((List.range k).map (mo S)).map fr), x, y, z] ∧ x.keep = true ∧ y.keep = true ∧ z.keep = true) ⟨_, _, _, rfl, rfl, rfl, rfl⟩ ?_ ?_)
      · rintro k d δ hd ⟨x, y, z, rfl, hx, hy, hz⟩
        have hk : k < n + 1 := by
          have := (List.getElem?_eq_some_iff.mp hd).1
          rwa [rangeD_len] at this
        rw [rangeD_get hk] at hd
        cases hd
        refine ss_one (s1_append 2 rfl ?_ (ev_call (ok_lsum T) (hr.mono (by decide)) (ea_cons (EL.ev (el_lcT 4 5 sc__law_moments.nd rfl (by decide) (it_tup (ds := S.map pr) (ev_var 0) stays_c) ?_ ?_ _ ?_ ?_ ?_ ?_)) ea_nil) (.mk (S.map fun xw => xw.2 * xw.1 ^ k) ?_ ?_)) (nol_fr _) ?_ ?_ ?_)
        · simp [keep_arg, keep_own, keep_int, hy, hz]
        · exact blkOk_by (N := N__law_moments) (sc := defScope s__law_moments) (by decide +kernel)
        · exact fun _ _ _ _ _ => pg_tup rfl (pgs_cons (pg_name sc__law_moments.nd rfl (Or.inl rfl)) (pgs_cons (pg_name sc__law_moments.nd rfl (Or.inl rfl)) pgs_nil))
        · simp
        · exact nolAll_fr _
        · rw [sdl]; omega
        · intro j d e h1 h2
          rw [List.map_map] at h2
          obtain ⟨u, hu, rfl, rfl⟩ := map_two h1 h2
          refine ⟨_, _, rfl, fun s Hb C cl fp => ?_⟩
          exact ev_call (ok_times T) (hr.mono (by decide)) (ea_cons (ev_var 5) (ea_cons (ev_call (ok_lpower T) (hr.mono (by decide)) (ea_cons (ev_var 4) (ea_cons (ev_var 3) ea_nil)) (.mk u.1 k (h.fx u hu) (fun i hi => h.fp u hu i (by omega)) (by omega))) ea_nil)) (.mk u.2 (u.1 ^ k) (h.fw u hu) (h.fp u hu k (by omega)))
        · intro r hr'
          obtain ⟨u, hu, rfl⟩ := List.mem_map.mp hr'
          exact h.ft u hu k (by omega)
        · exact fun j => h.fs j k (by omega)
        · simp; omega
        · refine ⟨_, _, _, ?_, (rfl : (Sl.dat (.int (k : Int))).keep = true), hy, hz⟩
          rw [range_take_succ, List.map_append]
          rfl
        · exact pe_bm PySem.F.plainAttrs_list PySem.F.slot_list_append PySem.F.type_list_append mt_append (pv 2) (pa_cons c_e pa_nil)
      · rintro δ ⟨x, y, z, rfl, hx, hy, hz⟩
        rw [rangeD_len]
        exact ss_one (s1_ret (ev_tupL T.b_tuple (ev_var 2)) rfl)
/-- the mixing -/
def mixed (c k : Int) : Int := ((c % 2147483647 * (48271 + 2 * k * k) + 69621 * k + 11) % 2147483647 * 69621) % 2147483629
inductive R_mixed : List PyData → PyData → Prop
  | mk (c k : Int) (h0 : 0 ≤ k) (h1 : k < 2 ^ 60) : R_mixed [.int c, .int k] (.int (mixed c k))
theorem ok_mixed (T : Tx K mg) : Fn P w K mg base "_law_mixed" ["_law_cell", "_law_k"] 1 (spD K R_mixed) :=
  Fn.ofD T.d__law_mixed sc__law_mixed bd__law_mixed (fun _ _ h => by cases h; rfl) fun f cdv A outer s H E ds d hr hR => by
    cases hR with
    | mk c k h0 h1 =>
      refine ss_cons (s1_set 0 sc__law_mixed.nd (ev_mod (ev_intc T.b_int (ev_var 0)) ev_int (by decide)) ?_)
      refine ss_one (s1_ret (ev_mod (ev_mulS (ev_mod (ev_add (ev_add (ev_mulS (ev_var 0) (ev_add ev_int (ev_mulS (ev_mulS ev_int (ev_var 1) ?_) (ev_var 1) ?_)) ?_) (ev_mulS ev_int (ev_var 1) ?_)) ev_int) ev_int (by decide)) ev_int ?_) ev_int (by decide)) rfl)
      · exact .inl ⟨by decide, by decide⟩
      · exact .inl ⟨by omega, by omega⟩
      · exact .inl ⟨by omega, by omega⟩
      · exact .inl ⟨by decide, by decide⟩
      · exact .inr ⟨by decide, by decide⟩
end
end RS

set_option Elab.async false
set_option linter.all false
set_option maxRecDepth 100000
set_option maxHeartbeats 4000000
/-! The law's dice: defs that change a dict and a list. -/
namespace RS
open PySem PySem.Spec PyProof.Rows L2

def Sl.fit : Sl → Bool
  | .non => true
  | .dat d => nol d
  | .raw _ => true
  | _ => false
section
variable {K : PySem.W.Frag} {H0 H H' : Hp} {σ : L2.St} {δ : List Sl}
theorem EnvD.rebase (E : EnvD K H0 H σ δ) (t : Tup K H H') (h : δ.all Sl.fit = true) : EnvD K H' H' σ δ := by
  have kp : ∀ {i : Nat} {s : Sl}, δ[i]? = some s → s.fit = true := fun e => List.all_eq_true.mp h _ (List.mem_of_getElem? e)
  refine ⟨Same.refl _, E.len, fun i s e => ?_, fun i j ds es l e1 _ _ _ => ?_⟩
  · have q := E.at_ i s e
    have f := kp e
    cases s with
    | non => trivial
    | dat d => obtain ⟨v, e1, h1⟩ := q; exact ⟨v, e1, dp_tup t _ _ f h1⟩
    | arg d => cases f
    | own ds => cases f
    | raw v => exact q
  · have f := kp e1
    cases f
theorem tup_updD {p : Addr} {kvs : List (Key × V)} {o : HO} (h : H p = some (.dK kvs)) : Tup K H (upd H p o) := fun a xs q => by
  rcases q with (q | ⟨u, q⟩) | q
  · exact .inl (.inl (by rw [upd_ne (ne_of q h (by intro z; cases z))]; exact q))
  · exact .inl (.inr ⟨u, by rw [upd_ne (ne_of q h (by intro z; cases z))]; exact q⟩)
  · exact .inr q
/-! what the dice hold -/
def stD (l c : Addr) (n : Int) : List (Key × V) := [(.inr "cells", .ref c), (.inr "lefts", .ref l), (.inr "at", .int n), (.inr "room", .int 0)]
structure StAt (H : Hp) (p l c : Addr) (ls cs : List Int) (n : Nat) : Prop where
  hd : H p = some (.dK (stD l c n))
  hl : H l = some (.lst (ls.map V.int))
  hc : H c = some (.lst (cs.map V.int))
  len : ls.length = cs.length
  ne : 0 < cs.length
  z : cs.length ≤ 63
  dis : c ≠ l
/-- but for the dice all stands -/
def Fr (p l : Addr) (H H' : Hp) : Prop := ∀ a o, a ≠ p → a ≠ l → H a = some o → H' a = some o
theorem StAt.same {p l c : Addr} {ls cs : List Int} {n : Nat} (h : StAt H p l c ls cs n) (s : Same H H') : StAt H' p l c ls cs n :=
  ⟨s _ _ h.hd, s _ _ h.hl, s _ _ h.hc, h.len, h.ne, h.z, h.dis⟩
theorem Fr.of {p l : Addr} (s : Same H H') : Fr p l H H' := fun a o _ _ e => s a o e
theorem Fr.trans {p l : Addr} {H1 H2 H3 : Hp} (a : Fr p l H1 H2) (b : Fr p l H2 H3) : Fr p l H1 H3 := fun x o h1 h2 e => b x o h1 h2 (a x o h1 h2 e)
theorem Fr.tup {p l c : Addr} {ls cs : List Int} {n : Nat} (f : Fr p l H H') (h : StAt H p l c ls cs n) : Tup K H H' := fun a xs q => by
  rcases q with (q | ⟨u, q⟩) | q
  · exact .inl (.inl (f _ _ (ne_of q h.hd (by intro z; cases z)) (ne_of q h.hl (by intro z; cases z)) q))
  · exact .inl (.inr ⟨u, f _ _ (ne_of q h.hd (by intro z; cases z)) (ne_of q h.hl (by intro z; cases z)) q⟩)
  · exact .inr q
theorem dp_intsA (ns : List Int) : DpAll K H (ns.map V.int) (ns.map PyData.int) := by
  induction ns with
  | nil => exact .nil
  | cons n ns ih => exact .cons (.int n) ih
theorem dp_ints {ns : List Int} {a : Addr} (h : H a = some (.lst (ns.map V.int))) : Dp K H (.ref a) (.list (ns.map PyData.int)) := .lst (SqL.of h) (by
  clear h
  induction ns with
  | nil => exact .nil
  | cons n ns ih => exact .cons (.int n) ih)
theorem put_at (l c : Addr) (n m : Int) : putK (stD l c n) (.inr "at") (.int m) = stD l c m := by
  have h1 : ¬ (Str.ofString "cells" = Str.ofString "at") := by decide +kernel
  have h2 : ¬ (Str.ofString "lefts" = Str.ofString "at") := by decide +kernel
  have h3 : ¬ (Str.ofString "room" = Str.ofString "at") := by decide +kernel
  simp [putK, stD, h1, h2, h3]
theorem val_cells (l c : Addr) (n : Int) : valV (stD l c n) (.inr "cells") = some (.ref c) := by rfl
theorem val_lefts (l c : Addr) (n : Int) : valV (stD l c n) (.inr "lefts") = some (.ref l) := by rfl
theorem val_at (l c : Addr) (n : Int) : valV (stD l c n) (.inr "at") = some (.int n) := by rfl
end
/-! steps at a heap -/
section
variable {X : Cx} {H0 H : Hp} {σ : L2.St} {δ δ1 : List Sl} {st : Stmt} {rest : List Stmt} {En : Ends}
theorem cs_cons (h : cS X st { En with nx := fun σ' H' => cSs X rest En σ' H' } σ H) : cSs X (st :: rest) En σ H := ss_of (pss_cons c_s c_ss) h
theorem cs_one (h : cS X st En σ H) : cSs X [st] En σ H := ss_of (pss_one c_s) h
theorem cs_step (E : EnvD X.K H0 H σ δ) (h : S1 X H0 δ st { nx := fun δ' => δ' = δ1 }) (k : ∀ σ' H', EnvD X.K H0 H' σ' δ1 → cSs X rest En σ' H') : cSs X (st :: rest) En σ H :=
  cs_cons (h σ H E _ ⟨fun σ' H' δ' _ E' q => by subst q; exact k σ' H' E', fun _ _ _ _ _ q => q.elim, fun _ _ _ _ _ _ _ _ q => q.elim, fun _ _ _ _ _ q => q.elim, fun _ _ _ _ _ q => q.elim⟩)
theorem cs_end {R : PyData → Prop} (E : EnvD X.K H0 H σ δ) (h : SS X H0 δ rest { nx := fun _ => False, rt := R }) (k : ∀ v H' d, Same H0 H' → Dp X.K H' v d → R d → En.rt v H') : cSs X rest En σ H :=
  h σ H E _ ⟨fun _ _ _ _ _ q => q.elim, fun v H' d s hd q => k v H' d s hd q, fun _ _ _ _ _ _ _ _ q => q.elim, fun _ _ _ _ _ q => q.elim, fun _ _ _ _ _ q => q.elim⟩
theorem EV.go {e : Expr} {d : PyData} {Q : VK} (E : EnvD X.K H0 H σ δ) (h : EV X H0 δ e d) (q : ∀ v H', Same H H' → Dp X.K H' v d → Q v H') : cE X e σ H Q := h σ H E Q q
theorem EL.go {e : Expr} {ds : List PyData} {Q : VK} (E : EnvD X.K H0 H σ δ) (h : EL X H0 δ e ds) (q : ∀ p vs H', Same H H' → H p = none → H' p = some (.lst vs) → DpAll X.K H' vs ds → Q (.ref p) H') : cE X e σ H Q := h σ H E Q q
theorem ET.go {e : Expr} {b : Bool} {Q : Bool → Hp → Prop} (E : EnvD X.K H0 H σ δ) (h : ET X H0 δ e b) (q : ∀ H', Same H H' → Q b H') : cT X e σ H Q := h σ H E Q q
theorem ev_raw (i : Nat) {x : Str} {v : V} {d : PyData} {pos : Pos} (h : δ[i]? = some (.raw v)) (hd : Dp X.K H0 v d) (hN : X.N[i]? = some x := by rfl) (hv : Vis X.env.scope x := by first | exact Or.inl rfl | exact Or.inr (Or.inl rfl) | exact Or.inr (Or.inr rfl)) (hdb : (x == ("__debug__" : Str)) = false := by decide)
    (hcd : (x == ("__classdict__" : Str)) = false := by decide) : EV X H0 δ (.Name x pos) d := fun σ H E Q q => e_of (pv i hN hv hdb hcd) ⟨v, E.getRaw h, q v H (Same.refl H) (dp_same E.ex _ _ hd)⟩
theorem ev_dget (i : Nat) {x k : Str} {p : Addr} {kvs : List (Key × V)} {v : V} {d : PyData} {pos px p2 : Pos} {j : Nat} (hu : X.A.units + 1 < cLine) (h : δ[i]? = some (.raw (.ref p))) (hp : H0 p = some (.dK kvs)) (hk : valV kvs (.inr k) = some v) (hd : Dp X.K H0 v d)
    (hN : X.N[i]? = some x := by rfl) (hv : Vis X.env.scope x := by first | exact Or.inl rfl | exact Or.inr (Or.inl rfl) | exact Or.inr (Or.inr rfl)) (hdb : (x == ("__debug__" : Str)) = false := by decide) (hcd : (x == ("__classdict__" : Str)) = false := by decide) :
    EV X H0 δ (.Subscript (.Name x px) (.Constant (.str k) j p2) pos) d := fun σ H E Q q =>
  e_of (pe_dget hu (pv i hN hv hdb hcd) pe_str (fun _ _ => rfl)) ⟨_, E.getRaw h, p, v, rfl, .inl ⟨kvs, .inr k, .inl (E.ex _ _ hp), rfl, hk.symm⟩, q v H (Same.refl H) (dp_same E.ex _ _ hd)⟩
end
section
variable {P : Program} {w : World} {K : PySem.W.Frag} {mg : Str → Option Value} {base : Heap} {x : Str} {st : Stmt} {N ps : List Str} {k : Nat}
theorem Fn.ofS {sp : Sp} (F : Df K mg x st) (S : FnScope N ps (defScope st)) (hb : ∀ (kV doc pm : Value) (an : Option Addr) (cdv ct : Value) (us : List Value), us.length = ps.length → bindArgs (PySem.W.fnOf x x (defArgs st) (defBody st) (defScope st) .none kV doc pm an cdv ct) ⟨us, []⟩ = pure (ps.zip us))
    (len : ∀ vs H Q E, sp vs H Q E → vs.length = ps.length)
    (body : ∀ f cdv A outer s H vs Q E, Room k (A.deeper (envOfC x (defScope st) s.heap.objs.size f cdv)) → sp vs H Q E →
      cSs (cx0 P w K mg base N x st f cdv A outer s H E) (defBody st) { nx := fun _ H' => Q .non H', rt := Q } (start N vs) H) : Fn P w K mg base x ps (k + 1) sp := by
  obtain ⟨f, fd, hm, F⟩ := F.ex
  exact ⟨f, fd, hm, F.kp, F.binds hb, F.ok S len fun cdv A outer s H vs Q E hr h => ⟨_, c_ss, body f cdv A outer s H vs Q E hr h⟩⟩
/-! ### a draw -/
variable {P : Program} {w : World} {K : PySem.W.Frag} {mg : Str → Option Value} {base : Heap}
def spDraw : Sp := fun vs H Q _ => ∃ (p l c : Addr) (ls cs : List Int) (n : Nat) (m : Int), vs = [.ref p, .int m] ∧ StAt H p l c ls cs n ∧ 0 < m ∧ m < 1000 ∧ n < 2 ^ 50 ∧
  ∀ (r : Int) (H' : Hp) (ls' : List Int), 0 ≤ r → r < m → StAt H' p l c ls' cs (n + 1) → Fr p l H H' → Q (.int r) H'
theorem ev_divS {X : Cx} {H0 : Hp} {δ : List Sl} {a b : Expr} {pos : Pos} {i j : Int} (ha : EV X H0 δ a (.int i)) (hb : EV X H0 δ b (.int j)) (hc : CDiv i j) : EV X H0 δ (.BinOp a .FloorDiv b pos) (.int (i / j)) :=
  ev2 op_fdiv ha hb fun x y H h1 h2 Q q => by cases h1; cases h2; exact ⟨_, _, rfl, rfl, hc, q _ H (Same.refl H) (.int _)⟩
theorem mixed_bd (c k : Int) : 0 ≤ mixed c k ∧ mixed c k < 2147483629 := ⟨Int.emod_nonneg _ (by decide), Int.emod_lt_of_pos _ (by decide)⟩
theorem lt64 {a c : Nat} (h : a + 64 < c) : a + 1 < c := by omega
theorem getI {ns : List Int} {n : Nat} (h : n < ns.length) : ∃ x, (ns.map PyData.int)[n]? = some (.int x) ∧ ns[n]? = some x := ⟨ns[n], by simp [h], by simp [h]⟩
theorem ok_draw (T : Tx K mg) : Fn P w K mg base "_law_draw" ["_law_state", "_law_many"] 2 spDraw :=
  Fn.ofS T.d__law_draw sc__law_draw bd__law_draw (fun _ _ _ _ h => by obtain ⟨p, l, c, ls, cs, n, m, rfl, _⟩ := h; rfl) fun f cdv A outer s H vs Q E hr h => by
    obtain ⟨p, l, c, ls, cs, n, m, rfl, S, hm, hm2, hn, q⟩ := h
    have hu := lt64 hr.units
    have E0 : EnvD K H H (start N__law_draw [.ref p, .int m]) [.raw (.ref p), .dat (.int m), .non, .non, .non, .non] := by
      refine ⟨Same.refl H, rfl, fun i s e => ?_, fun i j ds es l e1 _ _ _ => ?_⟩
      · match i, e with
        | 0, e => cases e; rfl
        | 1, e => cases e; exact ⟨_, rfl, .int m⟩
        | 2, e => cases e; trivial
        | 3, e => cases e; trivial
        | 4, e => cases e; trivial
        | 5, e => cases e; trivial
        | n + 6, e => cases e
      · match i, e1 with
        | 0, e => cases e
        | 1, e => cases e
        | 2, e => cases e
        | 3, e => cases e
        | 4, e => cases e
        | 5, e => cases e
        | n + 6, e => cases e
    refine cs_step E0 (s1_set 2 sc__law_draw.nd (ev_dget 0 hu rfl S.hd (val_at l c n) (.int _)) rfl) fun σ1 H1 E1 => ?_
    refine cs_cons (s_of (ps_dput hu (pv 0) pe_str c_e rfl) (ev_add (ev_var 2) ev_int σ1 H1 E1 _ fun v H2 s2 hv => ⟨_, E1.getRaw rfl, p, _, rfl, DPut.k (k := .inr "at") (s2 _ _ (E1.ex _ _ S.hd)) (by show 4 < sizeLine; decide), ?_⟩))
    cases hv
    rw [put_at]
    have S2 := (S.same E1.ex).same s2
    have hne : l ≠ p := ne_of S2.hl S2.hd (by intro z; cases z)
    have hcp : c ≠ p := ne_of S2.hc S2.hd (by intro z; cases z)
    have E2 := (E1.mono s2).rebase (tup_updD (o := .dK (stD l c ((n : Int) + 1))) S2.hd) rfl
    have S3 : StAt (upd H2 p (.dK (stD l c ((n : Int) + 1)))) p l c ls cs (n + 1) := ⟨upd_same, by rw [upd_ne hne]; exact S2.hl, by rw [upd_ne hcp]; exact S2.hc, S.len, S.ne, S.z, S.dis⟩
    have F3 : Fr p l H (upd H2 p (.dK (stD l c ((n : Int) + 1)))) := fun a o h1 _ e => by rw [upd_ne h1]; exact s2 _ _ (E1.ex _ _ e)
    clear hne hcp
    generalize upd H2 p (.dK (stD l c ((n : Int) + 1))) = H3 at E2 S3 F3
    have hpl : n % cs.length < cs.length := Nat.mod_lt _ S.ne
    refine cs_step E2 (s1_set 3 sc__law_draw.nd (d := .int ((n % cs.length : Nat) : Int)) (EV.is (ev_mod (ev_intc T.b_int (ev_var 2)) (ev_lenL T.b_len (ev_dget 0 hu rfl S3.hd (val_cells l c _) (dp_ints S3.hc))) (by have := S.ne; simp; omega)) (by simp)) rfl) fun σ3 H4 E3 => ?_
    obtain ⟨cx, hc1, hc2⟩ := getI (ns := cs) (n := n % cs.length) hpl
    obtain ⟨x, hx1, hx2⟩ := getI (ns := ls) (n := n % cs.length) (by rw [S.len]; exact hpl)
    refine cs_step (E3.rebase (H' := H4) (Tup.refl _) rfl) (s1_set 4 sc__law_draw.nd (d := .int x) (ev_ixL (ev_dget 0 hu rfl (S3.same E3.ex).hd (val_lefts l c _) (dp_ints (S3.same E3.ex).hl)) (ev_var 3) (atI_nat hx1)) rfl) fun σ4 H5 E4 => ?_
    have S5 := (S3.same E3.ex).same E4.ex
    have F5 : Fr p l H H5 := F3.trans (Fr.of (E3.ex.trans E4.ex))
    replace E4 := E4.rebase (H' := H5) (Tup.refl _) rfl
    clear E3 E2 S3 F3 S2 E1 E0 s2
    refine cs_cons (s_of (ps_if c_t c_ss c_ss) (ET.go E4 (et_cmp (ec_gt (ev_var 4) ev_int)) fun H6 s6 => ?_))
    have S6 := S5.same s6
    have F6 := F5.trans (Fr.of s6)
    replace E4 := (E4.mono s6).rebase (H' := H6) (Tup.refl _) rfl
    by_cases hx : (0 : Int) < x
    · rw [if_pos (by simpa using hx)]
      refine cs_cons (s_of (ps_asg c_e (pg_sub c_e c_e set_list) rfl rfl rfl) (EV.go E4 (ev_divS (ev_var 4) (ev_var 1) ⟨hm, by omega⟩) fun v H7 s7 hv => ?_))
      cases hv
      refine e_of (pe_dget hu (pv 0) pe_str (fun _ _ => rfl)) ⟨_, (E4.mono s7).getRaw rfl, p, .ref l, rfl, .inl ⟨_, .inr "lefts", .inl (s7 _ _ S6.hd), rfl, (val_lefts l c _).symm⟩, ?_⟩
      refine EV.go (E4.mono s7) (ev_var 3) fun v H8 s8 hv => ?_
      cases hv
      have S8 := (S6.same s7).same s8
      have F8 := F6.trans (Fr.of (s7.trans s8))
      refine ⟨l, _, _, n % cs.length, rfl, rfl, S8.hl, ixN_nat (by rw [List.length_map, S.len]; exact hpl), ?_⟩
      have E8 := ((E4.mono s7).mono s8).rebase (H' := upd H8 l (.lst ((ls.map V.int).set (n % cs.length) (.int (x / m))))) (tup_upd S8.hl) rfl
      refine cs_end (R := fun d => d = .int (x % m)) E8 (ss_one (s1_ret (ev_mod (ev_intc T.b_int (ev_var 4)) (ev_var 1) hm) rfl)) ?_
      rintro v H9 d s9 hd rfl
      cases hd
      refine q _ H9 (ls.set (n % cs.length) (x / m)) (Int.emod_nonneg _ (by omega)) (Int.emod_lt_of_pos _ hm) (StAt.same ?_ s9) (F8.trans (Fr.trans (fun a o h1 h2 e => by rw [upd_ne h2]; exact e) (Fr.of s9)))
      exact ⟨by rw [upd_ne (ne_of S8.hd S8.hl (by intro z; cases z))]; exact S8.hd, by rw [upd_same, List.map_set], by rw [upd_ne S.dis]; exact S8.hc, by rw [List.length_set]; exact S.len, S.ne, S.z, S.dis⟩
    · rw [if_neg (by simpa using hx)]
      refine ss_of pss_nil ?_
      show cSs _ _ _ _ _
      refine cs_step E4 (s1_set 5 sc__law_draw.nd (ev_call (ok_mixed T) hr (ea_cons (ev_call (ok_mixed T) hr (ea_cons (ev_ixL (ev_dget 0 hu rfl S6.hd (val_cells l c _) (dp_ints S6.hc)) (ev_var 3) (atI_nat hc1)) (ea_cons (ev_var 2) ea_nil)) (.mk cx n (by omega) (by omega))) (ea_cons (ev_add ev_int (ev_var 2)) ea_nil)) (.mk _ (40 + n) (by omega) (by omega))) rfl) fun σ7 H7 E7 => ?_
      have hb := mixed_bd (mixed cx n) (40 + n)
      have hb2 := mixed_bd (mixed (mixed cx n) (40 + n)) (7 + n)
      refine cs_end (R := fun d => d = .int ((mixed (mixed cx n) (40 + n) * 2147483647 + mixed (mixed (mixed cx n) (40 + n)) (7 + n)) / 64 % m)) E7 (ss_one (s1_ret (ev_mod (ev_divS (ev_intc T.b_int (ev_add (ev_mulS (ev_var 5) ev_int ?_) (ev_call (ok_mixed T) hr (ea_cons (ev_var 5) (ea_cons (ev_add ev_int (ev_var 2)) ea_nil)) (.mk _ (7 + n) (by omega) (by omega))))) ev_int ⟨by decide, by decide⟩) (ev_var 1) hm) rfl)) ?_
      · exact .inr ⟨by decide, by decide⟩
      · rintro v H8 d s8 hd rfl
        cases hd
        exact q _ H8 ls (Int.emod_nonneg _ (by omega)) (Int.emod_lt_of_pos _ hm) (S6.same s8) (F6.trans (Fr.of s8))
end
end RS

set_option Elab.async false
set_option linter.all false
set_option maxRecDepth 100000
set_option maxHeartbeats 4000000
/-! The law's dice begin. -/
namespace RS
open PySem PySem.Spec PyProof.Rows L2
section
variable {P : Program} {w : World} {K : PySem.W.Frag} {mg : Str → Option Value} {base : Heap}
theorem nolAll_ints (xs : List Int) : nolAll (xs.map PyData.int) = true := nolAll_map (fun _ => rfl) xs
theorem flatD_ints (xs : List Int) : Flat 1 (.list (xs.map PyData.int)) := flat_lst fun d h => by
  obtain ⟨r, _, rfl⟩ := List.mem_map.mp h
  exact flat_int 0 r
theorem merge_st (l c : Addr) : mergeK [] (stD l c 0) = stD l c 0 := by
  have h1 : ¬ (Str.ofString "cells" = Str.ofString "lefts") := by decide +kernel
  have h2 : ¬ (Str.ofString "cells" = Str.ofString "at") := by decide +kernel
  have h3 : ¬ (Str.ofString "cells" = Str.ofString "room") := by decide +kernel
  have h4 : ¬ (Str.ofString "lefts" = Str.ofString "at") := by decide +kernel
  have h5 : ¬ (Str.ofString "lefts" = Str.ofString "room") := by decide +kernel
  have h6 : ¬ (Str.ofString "at" = Str.ofString "room") := by decide +kernel
  simp [mergeK, putK, stD, h1, h2, h3, h4, h5, h6]
theorem el_listL {X : Cx} {H0 : Hp} {δ : List Sl} {e : Expr} {pos p : Pos} {ds : List PyData} (hm : X.mg "list" = none) (ha : EV X H0 δ e (.list ds)) (hg : Gl X "list" := by rfl) (hs : starEach [e] X.env = (false, eval e X.env) :: starEach [] X.env := by rfl) :
    EL X H0 δ (.Call (.Name "list" p) [e] [] pos) ds := fun σ H E Q q =>
  e_of (pe_callTy call_list_of hg hm hv_list c_a (by decide) (by decide) hs rfl) (ea_cons ha ea_nil hs σ H E _ fun vs H1 s1 h1 => by
    obtain ⟨v, e0, h⟩ := dp1 h1
    subst e0
    cases h with
    | lst q1 d1 => exact ⟨_, _, rfl, .inl q1, fun l hl => q l _ _ (s1.trans (Same.new hl)) (s1.free hl) upd_same (dpAll_same (Same.new hl) _ _ d1)⟩)
theorem el_if {X : Cx} {H0 : Hp} {δ : List Sl} {a b c : Expr} {pos : Pos} {k : Bool} {ds : List PyData} (h : ET X H0 δ c k) (h1 : k = true → EL X H0 δ a ds) (h2 : k = false → EL X H0 δ b ds) : EL X H0 δ (.IfExp c a b pos) ds := by
  cases k with
  | true => exact el_ifT h (h1 rfl)
  | false => exact el_ifF h (h2 rfl)
def spBegin (K : PySem.W.Frag) : Sp := fun vs H Q _ => ∃ (v : V) (xs : List Int), vs = [v] ∧ Dp K H v (.list (xs.map PyData.int)) ∧ xs.length ≤ 63 ∧
  ∀ (p : Addr) (H' : Hp) (l c : Addr) (ls cs : List Int), Same H H' → StAt H' p l c ls cs 0 → Q (.ref p) H'
theorem ok_begin (T : Tx K mg) : Fn P w K mg base "_law_begin" ["_law_script"] 1 (spBegin K) :=
  Fn.ofS T.d__law_begin sc__law_begin bd__law_begin (fun _ _ _ _ h => by obtain ⟨v, xs, rfl, _⟩ := h; rfl) fun f cdv A outer s H vs Q E hr h => by
    obtain ⟨v, xs, rfl, hv, hz, q⟩ := h
    have E0 : EnvD K H H (start N__law_begin [v]) (init N__law_begin [.list (xs.map PyData.int)]) := env_init (.cons hv .nil)
    obtain ⟨cs, hcs, hne, hle⟩ : ∃ cs : List Int, cs = (if xs = [] then [0] else xs) ∧ 0 < cs.length ∧ cs.length ≤ 63 := by
      refine ⟨_, rfl, ?_, ?_⟩
      · by_cases h : xs = []
        · rw [if_pos h]; decide
        · rw [if_neg h]; exact List.length_pos_iff.mpr h
      · by_cases h : xs = []
        · rw [if_pos h]; decide
        · rw [if_neg h]; exact hz
    refine cs_step E0 (δ1 := [.arg (.list (xs.map PyData.int)), .own (cs.map PyData.int), .non]) (s1_setL 1 sc__law_begin.nd (el_if (et_cmp (ec_neD hr.units (ev_var 0) (EL.ev (el_lst ea_nil)) (flatD_ints xs).shaped (flatD_ints []).shaped)) (fun hk => ?_) (fun hk => ?_)) (nolAll_ints cs) rfl) fun σ1 H1 E1 => ?_
    · have hx : xs ≠ [] := fun e => by subst e; exact absurd hk (by decide)
      rw [hcs, if_neg hx]
      exact el_listL T.b_list (ev_var 0)
    · have hx : xs = [] := by
        cases xs with
        | nil => rfl
        | cons x xs => exact absurd hk (by simp [PyData.eqv, PyData.eqvAll])
      rw [hcs, if_pos hx]
      exact el_lst (ea_cons ev_int ea_nil)
    obtain ⟨c, cvs, ec, hc0, hc1, hc2, _⟩ := E1.getOwn (i := 1) rfl
    have := dpAll_ints hc2
    subst this
    refine cs_one (s_of (ps_ret (pe_disp (pps_cons pe_str (pv 1) (pps_cons pe_str c_e (pps_cons pe_str pe_int (pps_cons pe_str pe_int pps_nil)))) rfl rfl (by simp) (by decide))) ?_)
    intro p hp
    refine ⟨_, ec, ?_⟩
    refine EL.go (ds := (cs.map fun x => if 10 ^ 18 ≤ x then x else 0).map PyData.int) (E1.mono (Same.new hp)) ?_ ?_
    · refine el_lcN 2 sc__law_begin.nd rfl rfl (it_listC (ds := cs.map PyData.int) (ev_var 1)) ?_ ?_ _ ?_ ?_ ?_ ?_
      · exact blkOk_by (N := N__law_begin) (sc := defScope s__law_begin) (by decide +kernel)
      · exact fun _ _ _ _ _ => pg_name sc__law_begin.nd rfl (Or.inl rfl)
      · simp
      · exact nolAll_ints _
      · simp; omega
      · intro k d e h1 h2 s Hb C cl fp
        rw [List.map_map] at h2
        obtain ⟨x, hx, rfl, rfl⟩ := map_two h1 h2
        show EV _ _ _ _ (.int (if 10 ^ 18 ≤ x then x else 0))
        by_cases h : (10 : Int) ^ 18 ≤ x
        · rw [if_pos h]
          exact ev_ifT (et_cmpE (ec_ge (ev_var 2) (ev_pow (j := 18) ev_int ev_int ⟨by decide, by decide, by decide⟩)) (by simpa using h)) (ev_var 2)
        · rw [if_neg h]
          exact ev_ifF (et_cmpE (ec_ge (ev_var 2) (ev_pow (j := 18) ev_int ev_int ⟨by decide, by decide, by decide⟩)) (by simpa using h)) ev_int
    · intro l lvs H2 s2 hl0 hl1 hl2
      have := dpAll_ints hl2
      subst this
      have hcp : c ≠ p := ne_of_none hc1 hp
      have hp2 : H2 p = some (.dK []) := s2 _ _ upd_same
      have hlp : l ≠ p := fun e => by rw [e, upd_same] at hl0; cases hl0
      have hc2' : H2 c = some (.lst (cs.map V.int)) := s2 _ _ (by rw [upd_ne hcp]; exact hc1)
      have hcl : c ≠ l := fun e => by rw [← e, upd_ne hcp, hc1] at hl0; cases hl0
      refine ⟨hp2, stD l c 0, rfl, by show 4 ≤ 15; decide, ?_⟩
      rw [merge_st]
      refine q p _ l c _ cs ?_ ⟨upd_same, by rw [upd_ne hlp]; exact hl1, by rw [upd_ne hcp]; exact hc2', by simp, hne, hle, hcl⟩
      intro a o e
      have ha : a ≠ p := ne_of_none (E1.ex _ _ e) hp
      rw [upd_ne ha]
      exact s2 _ _ (by rw [upd_ne ha]; exact E1.ex _ _ e)
end
end RS

set_option Elab.async false
set_option linter.all false
set_option maxRecDepth 100000
set_option maxHeartbeats 4000000
/-! The law's shares. -/
namespace RS
open PySem PySem.Spec PyProof.Rows L2
/-! plain: a place in ascending order -/
theorem ins_asc (x : Rat) : ∀ {l : List Rat}, l.Pairwise (· < ·) → x ∉ l →
    (l.take (l.filter fun y => decide (y < x)).length ++ [x] ++ l.drop (l.filter fun y => decide (y < x)).length).Pairwise (· < ·)
  | [], _, _ => by simp
  | a :: l, h, hx => by
    rw [List.pairwise_cons] at h
    obtain ⟨h1, h2⟩ := h
    rw [List.mem_cons, not_or] at hx
    by_cases ha : a < x
    · have ih := ins_asc x h2 hx.2
      rw [List.filter_cons_of_pos (by simpa using ha), List.length_cons, List.take_succ_cons, List.drop_succ_cons, List.cons_append, List.cons_append, List.pairwise_cons]
      refine ⟨fun y hy => ?_, ih⟩
      rw [List.append_assoc, List.mem_append, List.mem_append] at hy
      rcases hy with hy | hy | hy
      · exact h1 y (List.mem_of_mem_take hy)
      · rw [List.mem_singleton] at hy; rw [hy]; exact ha
      · exact h1 y (List.mem_of_mem_drop hy)
    · have hxa : x < a := by
        have e : x ≠ a := hx.1
        grind
      have hf : (a :: l).filter (fun y => decide (y < x)) = [] := by
        rw [List.filter_eq_nil_iff]
        intro y hy
        rw [decide_eq_true_eq]
        rcases List.mem_cons.mp hy with rfl | hy
        · exact ha
        · have := h1 y hy
          grind
      rw [hf]
      show ([] ++ [x] ++ (a :: l)).Pairwise (· < ·)
      rw [List.nil_append, List.singleton_append, List.pairwise_cons]
      refine ⟨fun y hy => ?_, List.pairwise_cons.mpr ⟨h1, h2⟩⟩
      rcases List.mem_cons.mp hy with rfl | hy
      · exact hxa
      · have := h1 y hy
        grind
/-- the numbers of a share, its weights -/
def NumOk (x : Rat) : Prop := ∃ a b : Int, -4 ≤ a ∧ a ≤ 4 ∧ 1 ≤ b ∧ b ≤ 2 ∧ x = Rat.divInt a b
def WgtOk (x : Rat) : Prop := ∃ a b : Int, 1 ≤ a ∧ a ≤ 4 ∧ 1 ≤ b ∧ b ≤ 2 ∧ x = Rat.divInt a b
structure GoodS (S : Shr) : Prop where
  ne : 1 ≤ S.length
  few : S.length ≤ 3
  asc : (S.map (·.1)).Pairwise (· < ·)
  num : ∀ a ∈ S, NumOk a.1
  wgt : ∀ a ∈ S, WgtOk a.2
theorem NumOk.fz {x : Rat} (h : NumOk x) : Fz x := by
  obtain ⟨a, b, h1, h2, h3, h4, rfl⟩ := h
  have e1 : (Rat.divInt a b).num.natAbs ≤ a.natAbs := by
    rw [made_num (by omega)]
    exact Int.natAbs_ediv_le_natAbs _ _
  have e2 : (Rat.divInt a b).den ≤ b.natAbs := by
    have := made_den (a := a) (b := b) (by omega)
    have h := Int.natAbs_ediv_le_natAbs b ((Int.gcd a b : Nat) : Int)
    rw [← this] at h
    simpa using h
  have z : (5 : Nat) < 2 ^ 4400 := Nat.lt_of_lt_of_le (by decide : 5 < 2 ^ 3) (Nat.pow_le_pow_right (by decide) (by decide))
  exact ⟨by omega, by omega⟩
theorem WgtOk.fz {x : Rat} (h : WgtOk x) : Fz x := by
  obtain ⟨a, b, h1, h2, h3, h4, rfl⟩ := h
  exact NumOk.fz ⟨a, b, by omega, by omega, h3, h4, rfl⟩
/-! a draw as an expression -/
section
variable {X : Cx} {H : Hp} {σ : L2.St} {p l c : Addr} {ls cs : List Int} {n : Nat} {m : Int} {Q : VK}
theorem draw_go {e2 : Expr} {p1 p2 p4 : Pos} (F : Fn X.prog X.w X.K X.mg X.base "_law_draw" ["_law_state", "_law_many"] 2 spDraw) (hr : Room 2 X.A) (hσ : σ[0]? = some (some (.ref p))) (S : StAt H p l c ls cs n) (hm : 0 < m) (hm2 : m < 1000) (hn : n < 2 ^ 50)
    (q : ∀ (r : Int) (H' : Hp) (ls' : List Int), 0 ≤ r → r < m → StAt H' p l c ls' cs (n + 1) → Fr p l H H' → Q (.int r) H') (he2 : ∀ (H : Hp) (Q : VK), Q (.int m) H → cE X e2 σ H Q)
    (hg : Gl X "_law_draw" := by rfl) (hN : X.N[0]? = some ("_law_state" : Str) := by rfl) (hv : Vis X.env.scope "_law_state" := by first | exact Or.inl rfl | exact Or.inr (Or.inl rfl) | exact Or.inr (Or.inr rfl))
    (he : starEach [.Name "_law_state" p2, e2] X.env = (false, eval (.Name "_law_state" p2) X.env) :: starEach [e2] X.env := by rfl) (he' : starEach [e2] X.env = (false, eval e2 X.env) :: starEach [] X.env := by rfl) (hpl : (backTo p4 (starEach [e2] X.env)).any (·.1) = false := by rfl) :
    cE X (.Call (.Name "_law_draw" p1) [.Name "_law_state" p2, e2] [] p4) σ H Q := by
  obtain ⟨f, fd, h1, hk, hb, F⟩ := F.ex
  refine e_of (pe_call (CX := CX0) (E := E0) F hr hg h1 hk hb .nil pass0 (pa_cons (pv 0 hN hv) (pa_cons c_e pa_nil he') he) (by decide) he hpl) ?_
  refine ⟨_, hσ, ?_⟩
  refine he2 H _ ?_
  exact ⟨p, l, c, ls, cs, n, m, rfl, S, hm, hm2, hn, fun r H' ls' a b c d => q r H' ls' a b c d⟩
theorem cE_mono {e : Expr} {Q' : VK} (h : cE X e σ H Q) (q : ∀ v H', Q v H' → Q' v H') : cE X e σ H Q' := fun pins s I => wpAny_mono (h pins s I) (fun u s' ⟨v, H', I', r, z⟩ => ⟨v, H', I', r, q v H' z⟩) fun _ _ x => x
theorem int_go {i : Int} {j : Nat} {p5 : Pos} (H : Hp) (Q : VK) (q : Q (.int i) H) : cE X (.Constant (.int i) j p5) σ H Q := e_of pe_int q
theorem add_go {b : Expr} {pos : Pos} {j : Nat} {p5 : Pos} {i : Int} (h : cE X b σ H (fun v H' => ∃ r, v = .int r ∧ Q (.int (i + r)) H')) : cE X (.BinOp (.Constant (.int i) j p5) .Add b pos) σ H Q :=
  e_of (pe_op op_add pe_int c_e) (cE_mono h fun v H' ⟨r, e, q⟩ => ⟨_, r, rfl, e, q⟩)
theorem sub_go {b : Expr} {pos : Pos} {j : Nat} {p5 : Pos} {i : Int} (h : cE X b σ H (fun v H' => ∃ r, v = .int r ∧ Q (.int (r - i)) H')) : cE X (.BinOp b .Sub (.Constant (.int i) j p5) pos) σ H Q :=
  e_of (pe_op op_sub c_e pe_int) (cE_mono h fun v H' ⟨r, e, q⟩ => ⟨r, _, e, rfl, q⟩)
theorem ratio_go {e1 e2 : Expr} {p1 p4 : Pos} (F : Fn X.prog X.w X.K X.mg X.base "_law_ratio" ["_law_top", "_law_bottom"] 1 (spD X.K R_ratio)) (hr : Room 1 X.A)
    (h : cE X e1 σ H (fun v H1 => ∃ a, v = .int a ∧ cE X e2 σ H1 (fun u H2 => ∃ b : Int, u = .int b ∧ 0 < b ∧ b ≤ 1000 ∧ ∀ v H', Same H2 H' → Dp X.K H' v (fr (Rat.divInt a b)) → Q v H')))
    (hg : Gl X "_law_ratio" := by rfl) (he : starEach [e1, e2] X.env = (false, eval e1 X.env) :: starEach [e2] X.env := by rfl) (he' : starEach [e2] X.env = (false, eval e2 X.env) :: starEach [] X.env := by rfl) (hpl : (backTo p4 (starEach [e2] X.env)).any (·.1) = false := by rfl) :
    cE X (.Call (.Name "_law_ratio" p1) [e1, e2] [] p4) σ H Q := by
  obtain ⟨f, fd, h1, hk, hb, F⟩ := F.ex
  refine e_of (pe_call (CX := CX0) (E := E0) F hr hg h1 hk hb .nil pass0 (pa_cons c_e (pa_cons c_e pa_nil he') he) (by decide) he hpl) ?_
  refine cE_mono h fun v H1 ⟨a, e, h2⟩ => ?_
  subst e
  refine cE_mono h2 fun u H2 ⟨b, e, hb0, hb1, q⟩ => ?_
  subst e
  have hz : b.natAbs < 2 ^ 9000 := Nat.lt_of_le_of_lt (show b.natAbs ≤ 1000 by omega) (Nat.lt_of_lt_of_le (by decide : 1000 < 2 ^ 10) (Nat.pow_le_pow_right (by decide) (by decide)))
  exact ⟨_, _, .cons (.int a) (.cons (.int b) .nil), .mk a b hb0 hz, q⟩
end
section
variable {P : Program} {w : World} {K : PySem.W.Frag} {mg : Str → Option Value} {base : Heap}
def spShare (K : PySem.W.Frag) : Sp := fun vs H Q _ => ∃ (p l c : Addr) (ls cs : List Int) (n : Nat), vs = [.ref p, .int 3] ∧ StAt H p l c ls cs n ∧ n < 2 ^ 49 ∧
  ∀ (v : V) (H' : Hp) (S : Shr) (ls' : List Int) (n' : Nat), GoodS S → Dp K H' v (sd S) → StAt H' p l c ls' cs n' → n' ≤ n + 20 → Fr p l H H' → Q v H'
def Sl.isOwn : Sl → Bool
  | .own _ => true
  | _ => false
theorem EnvD.re {K : PySem.W.Frag} {H0 H : Hp} {σ : L2.St} {δ δ' : List Sl} (E : EnvD K H0 H σ δ) (hl : δ'.length = δ.length) (ho : δ'.all (fun s => !s.isOwn) = true) (h : ∀ (i : Nat) (s : Sl), δ'[i]? = some s → SlOk K H H ((σ[i]?).join) s) : EnvD K H H σ δ' :=
  ⟨Same.refl _, by rw [E.len, hl], h, fun i j ds es l e _ _ _ => by
    have := List.all_eq_true.mp ho _ (List.mem_of_getElem? e)
    cases this⟩
abbrev dLp (p q : Addr) : List Sl := [.raw (.ref p), .dat (.int 3), .raw (.ref q), .non, .non, .non, .non]
theorem lt65 {a k c : Nat} (h : a + 16 * k + 200 < c) : a + 65 < c := by omega
theorem lp_env {K : PySem.W.Frag} {H : Hp} {p q : Addr} {o3 o4 o5 o6 : Option V} : EnvD K H H [some (.ref p), some (.int 3), some (.ref q), o3, o4, o5, o6] (dLp p q) := by
  refine ⟨Same.refl H, rfl, fun i s e => ?_, fun i j ds es l e1 _ _ _ => ?_⟩
  · match i, e with
    | 0, e => cases e; rfl
    | 1, e => cases e; exact ⟨_, rfl, .int 3⟩
    | 2, e => cases e; rfl
    | 3, e => cases e; trivial
    | 4, e => cases e; trivial
    | 5, e => cases e; trivial
    | 6, e => cases e; trivial
    | n + 7, e => cases e
  · match i, e1 with
    | 0, e => cases e
    | 1, e => cases e
    | 2, e => cases e
    | 3, e => cases e
    | 4, e => cases e
    | 5, e => cases e
    | 6, e => cases e
    | n + 7, e => cases e
/-- in the loop -/
structure Lp (K : PySem.W.Frag) (H0 : Hp) (p l c : Addr) (cs : List Int) (n0 k : Nat) (σ : L2.St) (H : Hp) : Prop where
  ex : ∃ (q : Addr) (vs : List V) (nums : List Rat) (ls : List Int), EnvD K H H σ (dLp p q) ∧ H q = some (.lst vs) ∧ DpAll K H vs (nums.map fr) ∧ q ≠ l ∧ StAt H p l c ls cs (n0 + 1 + 2 * k) ∧ Fr p l H0 H ∧
    nums.Pairwise (· < ·) ∧ (∀ x ∈ nums, NumOk x) ∧ nums.length ≤ k ∧ (k ≠ 0 → 1 ≤ nums.length)
theorem re_lp {K : PySem.W.Frag} {H0 H : Hp} {σ : L2.St} {s0 s1 s2 s3 s4 s5 s6 : Sl} {p q : Addr} (E : EnvD K H0 H σ [s0, s1, s2, s3, s4, s5, s6]) (h0 : s0 = .raw (.ref p)) (h1 : s1 = .dat (.int 3)) (h2 : (σ[2]?).join = some (.ref q)) : EnvD K H H σ (dLp p q) := by
  refine E.re rfl rfl fun i s e => ?_
  match i, e with
  | 0, e => cases e; subst h0; exact E.at_ 0 _ rfl
  | 1, e =>
    cases e; subst h1
    obtain ⟨v, e1, h⟩ := E.at_ 1 _ rfl
    cases h
    exact ⟨_, e1, .int _⟩
  | 2, e => cases e; exact h2
  | 3, e => cases e; trivial
  | 4, e => cases e; trivial
  | 5, e => cases e; trivial
  | 6, e => cases e; trivial
  | n + 7, e => cases e
theorem ok_share (T : Tx K mg) : Fn P w K mg base "_law_share" ["_law_state", "_law_few"] 3 (spShare K) :=
  Fn.ofS T.d__law_share sc__law_share bd__law_share (fun _ _ _ _ h => by obtain ⟨p, l, c, ls, cs, n, rfl, _⟩ := h; rfl) fun f cdv A outer s H vs Q E hr h => by
    obtain ⟨p, l, c, ls, cs, n, rfl, S, hn, q⟩ := h
    have hu := lt64 hr.units
    have hr1 := hr.mono (j := 1) (by decide)
    have hu65 := lt65 (k := 2) hr.un
    -- numbers = []
    refine cs_cons (s_of (ps_set sc__law_share.nd (i := 2) rfl (Or.inl rfl) c_e rfl (.inr rfl)) (e_of (pe_lst pa_nil) ⟨by decide, fun q0 hq0 => ?_⟩))
    have S1 := S.same (Same.new (o := .lst []) hq0)
    have F1 : Fr p l H (upd H q0 (.lst [])) := Fr.of (Same.new hq0)
    have e1 : upd H q0 (.lst []) q0 = some (.lst []) := upd_same
    have ql : q0 ≠ l := fun e => by rw [e, S.hl] at hq0; cases hq0
    generalize upd H q0 (.lst []) = H1 at S1 F1 e1
    clear hq0
    refine cs_cons (s_of (ps_for PassesOwn.never rfl (pi_range1 rfl T.b_range (pa_cons c_e pa_nil)) (pg_name (i := 3) sc__law_share.nd rfl (Or.inl rfl)) c_ss) ?_)
    refine add_go (draw_go (ok_draw T) (hr.mono (by decide)) rfl S1 (m := 3) (by decide) (by decide) (by omega) (fun r H2 ls2 hr0 hr3 S2 F2 => ?_) fun H Q q => e_of (pv 1) ⟨_, rfl, q⟩)
    refine ⟨r, rfl, 1 + r, rfl, by omega, by omega, ?_⟩
    obtain ⟨N, hN⟩ : ∃ N : Nat, (1 + r).toNat = N := ⟨_, rfl⟩
    have hN1 : 1 ≤ N ∧ N ≤ 3 := by omega
    rw [hN]
    refine ⟨fun k m σ' H' => m = N - k ∧ k ≤ N ∧ Lp K H p l c cs n k σ' H', ⟨N, rfl, Nat.zero_le _, ⟨q0, [], [], ls2, ?_, F2 _ _ (ne_of e1 S1.hd (by intro z; cases z)) ql e1, .nil, ql, S2, F1.trans F2, .nil, by simp, Nat.le_refl _, by simp⟩⟩, ?_⟩
    · exact lp_env
    rintro k m σ' H' ⟨rfl, hk, ⟨q1, vs1, nums, ls1, E1, hq1, hv1, ql1, S3, F3, hp, hnum, hle, hge⟩⟩
    by_cases hlt : k < N
    · refine .inr ⟨hlt, fun σ2 H2 => k + 1 ≤ N ∧ Lp K H p l c cs n (k + 1) σ2 H2, fun σ2 H2 ⟨a, b⟩ => ⟨N - (k + 1), by omega, rfl, a, b⟩, ?_⟩
      rintro x H5 ⟨rfl, rfl⟩
      rw [Int.zero_add]
      have E2 := E1.setD 3 (.int (k : Int))
      show cSs _ _ _ _ _
      generalize σ'.set 3 (some (V.int (k : Int))) = σ2 at E2
      refine cs_cons (s_of (ps_set sc__law_share.nd (i := 4) rfl (Or.inr rfl) c_e rfl (.inl rfl)) ?_)
      refine ratio_go (ok_ratio T) hr1 (sub_go (draw_go (ok_draw T) hr (E2.getRaw rfl) S3 (m := 9) (by decide) (by decide) (by omega) (fun r1 H6 ls3 hr10 hr19 S4 F4 => ?_) int_go))
      refine ⟨r1, rfl, _, rfl, add_go (draw_go (ok_draw T) hr (E2.getRaw rfl) S4 (m := 2) (by decide) (by decide) (by omega) (fun r2 H7 ls4 hr20 hr22 S5 F5 => ?_) int_go)⟩
      refine ⟨r2, rfl, _, rfl, by omega, by omega, fun v H8 s8 hd => ?_⟩
      have SB := S5.same s8
      have FB := (F4.trans F5).trans (Fr.of s8)
      have t8 : Tup K H5 H8 := FB.tup S3
      have E3 := (E2.rebase t8 rfl).setD 4 hd
      have hq8 : H8 q1 = some (.lst vs1) := FB _ _ (ne_of hq1 S3.hd (by intro z; cases z)) ql1 hq1
      have hv8 := dpAll_tup t8 _ _ (nolAll_fr nums) hv1
      have hone : NumOk (Rat.divInt (r1 - 4) (1 + r2)) := ⟨r1 - 4, 1 + r2, by omega, by omega, by omega, by omega, rfl⟩
      replace F3 := F3.trans FB
      show cSs _ _ _ _ _
      generalize Rat.divInt (r1 - 4) (1 + r2) = one at E3 hone
      generalize σ2.set 4 (some v) = σ3 at E3
      clear E2 E1 S4 S5 F4 F5 s8 hd FB t8 hq1 hv1
      obtain ⟨sp, hsp⟩ : ∃ sp : Nat, (nums.filter fun y => decide (y < one)).length = sp := ⟨_, rfl⟩
      refine cs_step E3 (s1_set 5 sc__law_share.nd (d := .int (sp : Int)) (EV.is (ev_lenL T.b_len (EL.ev (el_lcI 6 sc__law_share.nd rfl rfl (it_listC (ds := nums.map fr) (ev_raw 2 rfl (.lst (SqL.of hq8) hv8))) ?_ ?_ (fun j => ((nums.take j).filter fun y => decide (y < one)).map fr) ?_ ?_ ?_ ?_))) ?_) rfl) fun σ4 H9 E4 => ?_
      · exact blkOk_by (N := N__law_share) (sc := defScope s__law_share) (by decide +kernel)
      · exact fun _ _ _ _ _ => pg_name sc__law_share.nd rfl (Or.inl rfl)
      · rfl
      · exact fun j _ => nolAll_fr _
      · rw [List.length_map]; omega
      · intro j d hj
        obtain ⟨y, hy, rfl⟩ := map_one hj
        refine ⟨decide (y < one), fun s Hb C cl fp => ?_, fun hb => ⟨fr y, ?_, fun s Hb C cl fp => ev_var 6⟩, fun hb => ?_⟩
        · exact et_val (ev_call (ok_under T) hr1 (ea_cons (ev_var 6) (ea_cons (ev_var 4) ea_nil)) (.mk y one (hnum y (List.mem_of_getElem? hy)).fz hone.fz))
        · rw [List.take_add_one, hy]
          simp [List.filter_append, hb]
        · rw [List.take_add_one, hy]
          simp [List.filter_append, hb]
      · rw [List.length_map, List.length_map, List.take_length, hsp]
      have S9 := SB.same E4.ex
      have hq9 := E4.ex _ _ hq8
      have hv9 := dpAll_same E4.ex _ _ hv8
      replace F3 := F3.trans (Fr.of E4.ex)
      replace E4 := E4.rebase (H' := H9) (Tup.refl _) rfl
      refine cs_one (s_of (ps_if c_t c_ss c_ss) (ET.go E4 (et_cmp (ec_R (op_notInD hu65) (ev_var 4) (ev_raw 2 rfl (.lst (SqL.of hq9) hv9)) fun x y H h1 h2 Q q => ⟨fr one, nums.map fr, h1, h2, (flat_fr one).shaped, (flat_frs nums).shaped, q _ H (Same.refl H) (.bl _)⟩)) fun H10 s10 => ?_))
      have S10 := S9.same s10
      have hq10 := s10 _ _ hq9
      have hv10 := dpAll_same s10 _ _ hv9
      replace F3 := F3.trans (Fr.of s10)
      replace E4 := (E4.mono s10).rebase (H' := H10) (Tup.refl _) rfl
      have hany : ((nums.map fr).any fun z => PyData.eqv z (fr one)) = decide (one ∈ nums) := by
        rw [List.any_map]
        simp only [Function.comp_def, eqv_fr]
        rw [Bool.eq_iff_iff]
        simp
      rw [hany]
      by_cases hin : one ∈ nums
      · rw [if_neg (by simpa using hin)]
        refine ss_of pss_nil ?_
        refine ⟨hlt, q1, vs1, nums, ls4, re_lp E4 rfl rfl ?_, hq10, hv10, ql1, ?_, F3, hp, hnum, by omega, fun _ => List.length_pos_of_mem hin⟩
        · rw [E4.getRaw (i := 2) rfl]; rfl
        · rw [show n + 1 + 2 * (k + 1) = n + 1 + 2 * k + 1 + 1 by omega]; exact S10
      · rw [if_pos (by simpa using hin)]
        have hins := ins_asc one hp hin
        rw [hsp] at hins
        have hspl : sp ≤ nums.length := by rw [← hsp]; exact List.length_filter_le ..
        refine cs_step E4 (s1_setL 2 sc__law_share.nd (ds := (nums.take sp ++ [one] ++ nums.drop sp).map fr) (EL.is (el_cat (el_cat (el_slLto (ds := nums.map fr) (ev_raw 2 rfl (.lst (SqL.of hq10) hv10)) (ev_var 5)) (el_lst (ea_cons (ev_var 4) ea_nil)) ?_) (el_slLfrom (ds := nums.map fr) (ev_raw 2 rfl (.lst (SqL.of hq10) hv10)) (ev_var 5)) ?_) ?_) (nolAll_fr _) rfl) fun σ5 H11 E5 => ?_
        · rw [cutD_to]; simp; omega
        · rw [cutD_to, cutD_from]; simp; omega
        · rw [cutD_to, cutD_from]; simp
        obtain ⟨q2, vs2, eq2, hn2, hq2, hv2, _⟩ := E5.getOwn (i := 2) rfl
        have ql2 : q2 ≠ l := fun e => by rw [e, S10.hl] at hn2; cases hn2
        refine ss_of pss_nil ?_
        refine ⟨hlt, q2, vs2, _, ls4, re_lp E5 rfl rfl (by rw [eq2]; rfl), hq2, hv2, ql2, ?_, F3.trans (Fr.of E5.ex), hins, ?_, ?_, ?_⟩
        · rw [show n + 1 + 2 * (k + 1) = n + 1 + 2 * k + 1 + 1 by omega]; exact S10.same E5.ex
        · intro x hx
          rw [List.append_assoc, List.mem_append, List.mem_append] at hx
          rcases hx with hx | hx | hx
          · exact hnum x (List.mem_of_mem_take hx)
          · rw [List.mem_singleton] at hx; rw [hx]; exact hone
          · exact hnum x (List.mem_of_mem_drop hx)
        · simp; omega
        · intro _; simp; omega
    · have ek : k = N := by omega
      refine .inl ⟨by show N ≤ k; omega, ?_⟩
      show cSs _ _ _ _ _
      refine cs_one (s_of (ps_ret (pe_callTy call_tuple_of rfl T.b_tuple hv_tuple (pa_cons c_e pa_nil) (by decide) (by decide) rfl rfl)) ?_)
      refine e_of (pe_lc (g := gName 4) (tt := tYes) (te := bE _ _ _) (own := [("_law_one", 4)]) rfl sc__law_share.nd (pi_list (pv 2)) ?_ ?_ (fun _ _ _ _ _ => pts_nil) (fun s Hb C cl fp => ⟨fun pins s' σ' H' Q' I w => w s Hb C cl fp pins s' I⟩)) ?_
      · exact blkOk_by (N := N__law_share) (sc := defScope s__law_share) (by decide +kernel)
      · exact fun _ _ _ _ _ => pg_name sc__law_share.nd rfl (Or.inl rfl)
      refine ⟨_, E1.getRaw rfl, q1, rfl, ⟨_, SqL.of hq1⟩, fun D hD => ?_⟩
      have Dl : D ≠ l := fun e => by rw [e, S3.hl] at hD; cases hD
      have Dp' : D ≠ p := fun e => by rw [e, S3.hd] at hD; cases hD
      have Dq : q1 ≠ D := fun e => by rw [← e, hq1] at hD; cases hD
      have qp : q1 ≠ p := ne_of hq1 S3.hd (by intro z; cases z)
      refine ⟨fun i m H2 => m = nums.length - i ∧ i ≤ nums.length ∧ ∃ (S : Shr) (ls2 : List Int) (acc : List V), H2 D = some (.lst acc) ∧ DpAll K H2 acc (S.map pr) ∧ S.map (·.1) = nums.take i ∧ (∀ a ∈ S, WgtOk a.2) ∧ StAt H2 p l c ls2 cs (n + 1 + 2 * k + 2 * i) ∧ Fr p l H' H2,
        ⟨nums.length, rfl, Nat.zero_le _, [], ls1, [], upd_same, .nil, rfl, by simp, S3.same (Same.new hD), Fr.of (Same.new hD)⟩, ?_⟩
      rintro i m H2 ⟨rfl, hi, S, ls2, acc, hD2, ha2, hS, hw, S4, F4⟩
      have hq2 : H2 q1 = some (.lst vs1) := F4 _ _ qp ql1 hq1
      have hvl : vs1.length = nums.length := by rw [dpAll_len hv1, List.length_map]
      by_cases hil : i < nums.length
      · refine .inr ⟨⟨vs1, vs1[i]'(by omega), SqL.of hq2, by simp⟩, fun H3 => i + 1 ≤ nums.length ∧ ∃ (S : Shr) (ls2 : List Int) (acc : List V), H3 D = some (.lst acc) ∧ DpAll K H3 acc (S.map pr) ∧ S.map (·.1) = nums.take (i + 1) ∧ (∀ a ∈ S, WgtOk a.2) ∧ StAt H3 p l c ls2 cs (n + 1 + 2 * k + 2 * (i + 1)) ∧ Fr p l H' H3, fun H3 ⟨a, b⟩ => ⟨nums.length - (i + 1), by omega, rfl, a, b⟩, ?_⟩
        rintro x H3 ⟨rfl, hx⟩
        replace hx := hx _ (SqL.of hq2)
        obtain ⟨d, hd, hdx⟩ := dpAll_getV hv1 hx
        obtain ⟨y, hy, rfl⟩ := map_one hd
        refine ⟨by simp [L2.wipe], ?_⟩
        show bE _ _ _ _ _ _
        intro s Hb C cl fp
        have E2 : EnvD K H' H' ((L2.wipe σ' [4]).set 4 (some x)) _ := (E1.wipe [4]).setD 4 hdx
        replace E2 := E2.rebase (F4.tup S3) rfl
        refine e_of (pe_tup (pa_cons (pv 4) (pa_cons c_e pa_nil))) ⟨x, ?_, ?_⟩
        · have := E2.len
          rw [List.length_set] at this
          show ((L2.wipe σ' [4]).set 4 (some x))[4]? = _
          rw [List.getElem?_set_self (by rw [this]; show 4 < 7; decide)]
        refine ratio_go (ok_ratio T) hr1 (add_go (draw_go (ok_draw T) hr (E2.getRaw rfl) S4 (m := 4) (by decide) (by decide) (by omega) (fun r1 H6 ls3 hr10 hr19 S5 F5 => ?_) int_go))
        refine ⟨r1, rfl, _, rfl, add_go (draw_go (ok_draw T) hr (E2.getRaw rfl) S5 (m := 2) (by decide) (by decide) (by omega) (fun r2 H7 ls4 hr20 hr22 S6 F6 => ?_) int_go)⟩
        refine ⟨r2, rfl, _, rfl, by omega, by omega, fun v H8 s8 hd => ?_⟩
        have hwo : WgtOk (Rat.divInt (1 + r1) (1 + r2)) := ⟨1 + r1, 1 + r2, by omega, by omega, by omega, by omega, rfl⟩
        generalize Rat.divInt (1 + r1) (1 + r2) = wt at hd hwo
        refine ⟨by show 2 ≤ sizeLine; decide, fun t ht => ?_⟩
        have FB := (F5.trans F6).trans (Fr.of s8)
        have t8 : Tup K H3 H8 := FB.tup S4
        have S8 := S6.same s8
        have n8 : Same H8 (upd H8 t (.tup [x, v])) := Same.new ht
        have hD8 : H8 D = some (.lst acc) := FB _ _ Dp' Dl hD2
        have hal : acc.length = i := by
          have h1 := dpAll_len ha2
          rw [List.length_map] at h1
          have h2 := congrArg List.length hS
          rw [List.length_map, List.length_take] at h2
          omega
        refine ⟨acc, n8 _ _ hD8, Nat.lt_of_le_of_lt (show acc.length ≤ 3 by omega) (by decide), hil, S ++ [(y, wt)], ls4, acc ++ [.ref t], upd_same, ?_, ?_, ?_, ?_, ?_⟩
        · have tu : Tup K (upd H8 t (.tup [x, v])) (upd (upd H8 t (.tup [x, v])) D (.lst (acc ++ [.ref t]))) := tup_upd (n8 _ _ hD8)
          rw [List.map_append]
          refine dpAll_append (dpAll_tup tu _ _ (nolAll_map (fun a => nol_pd _) S) (dpAll_same n8 _ _ (dpAll_tup t8 _ _ (nolAll_map (fun a => nol_pd _) S) ha2))) (.cons ?_ .nil)
          refine dp_tup tu _ _ (nol_pd _) (.tup (SqT.of upd_same) (.cons (dp_same n8 _ _ (dp_tup (F4.trans FB |>.tup S3) _ _ (nol_fr y) hdx)) (.cons (dp_same n8 _ _ hd) .nil)))
        · rw [List.map_append, hS, List.take_add_one, hy]; rfl
        · intro a ha
          rcases List.mem_append.mp ha with ha | ha
          · exact hw a ha
          · rw [List.mem_singleton] at ha; rw [ha]; exact hwo
        · rw [show n + 1 + 2 * k + 2 * (i + 1) = n + 1 + 2 * k + 2 * i + 1 + 1 by omega]
          have S9 := S8.same n8
          exact ⟨by rw [upd_ne (Ne.symm Dp')]; exact S9.hd, by rw [upd_ne (Ne.symm Dl)]; exact S9.hl, by rw [upd_ne (fun e => by rw [← e, S3.hc] at hD; cases hD)]; exact S9.hc, S9.len, S9.ne, S9.z, S9.dis⟩
        · intro a o h1 h2 e
          rw [upd_ne (ne_of_none e hD)]
          exact n8 _ _ (FB _ _ h1 h2 (F4 _ _ h1 h2 e))
      · have ei : i = nums.length := by omega
        subst ei
        rw [List.take_length] at hS
        refine .inl ⟨⟨vs1, SqL.of hq2, by omega⟩, ?_⟩
        refine ⟨D, acc, rfl, .inl ⟨SqL.of hD2, fun t ht => ?_⟩⟩
        have hSl : S.length = nums.length := by rw [← hS, List.length_map]
        have n8 : Same H2 (upd H2 t (.tup acc)) := Same.new ht
        refine q (.ref t) _ S ls2 _ ⟨by have := hge (by omega); omega, by omega, by rw [hS]; exact hp, fun a ha => hnum _ (by rw [← hS]; exact List.mem_map_of_mem ha), hw⟩ (.tup (SqT.of upd_same) (dpAll_same n8 _ _ ha2)) (S4.same n8) (by omega) ((F3.trans F4).trans (Fr.of n8))
end
end RS

set_option Elab.async false
set_option linter.all false
set_option maxRecDepth 100000
set_option maxHeartbeats 4000000
/-! One turn of the law. -/
namespace RS
open PySem PySem.Spec PyProof.Rows L2
/-- what is true of the rungs of a share -/
structure GL (S : Shr) (Hk Ak : Nat → Rat) (A B B' last : List Rat) : Prop where
  eA : A = (List.range S.length).map Ak
  eB : B = (List.range S.length).map fun k => Hk (k + 1) / Hk k
  eB' : B' = (List.range (S.length - 1)).map fun k => Hk (k + 1) / Hk k
  l1 : LdOk (Hk 0) A B
  e1 : endB B = true
  l2 : LdOk (Hk 0) A B'
  e2 : endB B' = false
  st : ∀ k, k < 8 → StOk (wss (Hk 0) A B k) A B
  ws : ∀ k, k ≤ 8 → co (wss (Hk 0) A B k) 0 = mo S k
  nx : ∀ k, k < A.length → NxOk (rgs A B k).1 (rgs A B k).2 (co A k) (if k = 0 then 0 else co B (k - 1))
  la : last = (rgs A B S.length).1
  pol : Pol last
  len : last.length ≤ 12
  fl : ∀ x ∈ last, Fz x
  w0 : ∀ a ∈ S, horner last a.1 = 0 ∧ (∀ k, Fz (horner (last.drop k) a.1)) ∧ ∀ k, Fz (horner (last.drop k) a.1 * a.1)
  w1 : ∀ a ∈ S, Fz (a.1 + 1 / 7) ∧ horner last (a.1 + 1 / 7) ≠ 0 ∧ (∀ k, Fz (horner (last.drop k) (a.1 + 1 / 7))) ∧ ∀ k, Fz (horner (last.drop k) (a.1 + 1 / 7) * (a.1 + 1 / 7))
structure GF (S : Shr) : Prop where
  sh : ShOk S
  mo : MoOk S 8
  ex : ∃ (Pk : Nat → List Rat) (Hk Ak : Nat → Rat) (A B B' last : List Rat), RoOk (moms S (2 * S.length)) Pk Hk Ak S.length false ∧ RoOk (moms S (2 * S.length - 1)) Pk Hk Ak (S.length - 1) true ∧ GL S Hk Ak A B B' last
theorem MoOk.mono {S : Shr} {m n : Nat} (h : MoOk S n) (hm : m ≤ n) : MoOk S m :=
  ⟨h.fx, h.fw, fun a ha k hk => h.fp a ha k (by omega), fun a ha k hk => h.ft a ha k (by omega), fun j k hk => h.fs j k (by omega)⟩
theorem moms_drop (S : Shr) (n : Nat) : (moms S (n + 1)).dropLast = moms S n := by
  unfold moms
  rw [List.range_succ, List.map_append]
  simp
section
variable {X : Cx} {H0 : Hp} {δ : List Sl} {tg iter elt c : Expr} {ds : List PyData} {scope : Scope} {pos : Pos}
/-- two names, one test -/
theorem el_lcTI (i j : Nat) {x y : Str} {px py tpos : Pos} {kk : Nat} (nd : X.N.Nodup) (hc : X.calm = true) (hij : i ≠ j) (it : IT X H0 δ (.Tuple [.Name x px, .Name y py] kk tpos) iter ds Gc) (ok : BlkOk X.N X.env.scope scope [(x, i), (y, j)])
    (hg : ∀ s Hb C cl fp, PG (Blk X scope s Hb C cl fp) (.Tuple [.Name x px, .Name y py] kk tpos) (gTup X.K 2 (gCons (gName i) (gCons (gName j) gNil)))) (out : Nat → List PyData) (h0 : out 0 = []) (hn : ∀ k, k ≤ ds.length → nolAll (out k) = true) (hz : ds.length ≤ 100000)
    (h : ∀ (k : Nat) (d : PyData), ds[k]? = some d → ∃ d1 d2 b, d = .tuple [d1, d2] ∧ (∀ s Hb C cl fp, ET (Blk X scope s Hb C cl fp) H0 (((wipeS δ [i, j]).set i (.dat d1)).set j (.dat d2)) c b) ∧ (b = true → ∃ e, out (k + 1) = out k ++ [e] ∧ ∀ s Hb C cl fp, EV (Blk X scope s Hb C cl fp) H0 (((wipeS δ [i, j]).set i (.dat d1)).set j (.dat d2)) elt e) ∧ (b = false → out (k + 1) = out k))
    (hs : ∀ x, foldedSetIterable iter X.env x = pure x := by intro _; rfl) :
    EL X H0 δ (.ListComp elt [⟨.Tuple [.Name x px, .Name y py] kk tpos, iter, [c], 0⟩] scope pos) (out ds.length) := by
  obtain ⟨wi, hpi, hw⟩ := it
  intro σ H E Q q
  refine e_of (pe_lc (g := gTup X.K 2 (gCons (gName i) (gCons (gName j) gNil))) (tt := bT X scope c) (te := bE X scope elt) hc nd hpi ok hg (fun s Hb C cl fp => pts_one ⟨fun pins s' σ' H' Q' I w => w s Hb C cl fp pins s' I⟩) (fun s Hb C cl fp => ⟨fun pins s' σ' H' Q' I w => w s Hb C cl fp pins s' I⟩) hs) ?_
  refine hw σ H E _ fun J H1 s1 W D hD => ?_
  refine ⟨fun k m H' => m = ds.length - k ∧ k ≤ ds.length ∧ Same H1 H' ∧ ∃ vs, H' D = some (.lst vs) ∧ DpAll X.K H' vs (out k) ∧ vs.length ≤ k, ⟨ds.length, by simp, Nat.zero_le _, fun a o e => by rw [upd_ne (ne_of_none e hD)]; exact e, [], upd_same, by rw [h0]; exact .nil, Nat.le_refl _⟩, ?_⟩
  rintro k m H' ⟨rfl, hk, sm, vs, hv, dv, hvl⟩
  by_cases hlt : k < ds.length
  · refine .inr ⟨W.go k H' hlt sm, fun H'' => k + 1 ≤ ds.length ∧ Same H1 H'' ∧ ∃ vs, H'' D = some (.lst vs) ∧ DpAll X.K H'' vs (out (k + 1)) ∧ vs.length ≤ k + 1, fun H'' ⟨a, b, c⟩ => ⟨ds.length - (k + 1), by omega, rfl, a, b, c⟩, fun v H2 y => ?_⟩
    obtain ⟨s2, d, e1, hd⟩ := W.yld k H' v H2 hlt sm y
    obtain ⟨d1, d2, b, ed, hb, ht, hf⟩ := h k d e1
    subst ed
    cases hd with
    | tup qT dT =>
      obtain ⟨v1, v2, ev, g1, g2⟩ := dp2 dT
      subst ev
      have E2 : EnvD X.K H0 H2 (((L2.wipe σ [i, j]).set i (some v1)).set j (some v2)) (((wipeS δ [i, j]).set i (.dat d1)).set j (.dat d2)) := ((((E.mono s1).mono sm).mono s2 |>.wipe [i, j]).setD i g1).setD j g2
      refine ⟨_, _, rfl, qT, rfl, v1, [v2], rfl, v2, [], rfl, rfl, ?_, ?_⟩
      · exact wipe2 hij σ v1 v2
      · intro s Hb C cl fp
        refine hb s Hb C cl fp _ H2 E2 _ fun H3 s3 => ?_
        have hv3 : H3 D = some (.lst vs) := s3 _ _ (s2 _ _ hv)
        have dv3 := dpAll_same s3 _ _ (dpAll_same s2 _ _ dv)
        cases b with
        | false =>
          rw [if_neg Bool.false_ne_true]
          refine ⟨hlt, fun a o q => s3 _ _ (s2 _ _ (sm _ _ q)), vs, hv3, by rw [hf rfl]; exact dv3, Nat.le_succ_of_le hvl⟩
        | true =>
          rw [if_pos rfl]
          obtain ⟨e, e2, he⟩ := ht rfl
          intro s Hb C cl fp
          refine he s Hb C cl fp _ H3 (E2.mono s3) _ fun u H4 s4 h4 => ?_
          have hv4 : H4 D = some (.lst vs) := s4 _ _ hv3
          have n2 : nolAll (out (k + 1)) = true := hn (k + 1) hlt
          rw [e2, nolAll_append, Bool.and_eq_true] at n2
          have hne : nol e = true := by simpa [nolAll] using n2.2
          refine ⟨vs, hv4, ?_, hlt, fun a o q => ?_, _, upd_same, ?_, by simp; omega⟩
          · exact Nat.lt_of_le_of_lt (show vs.length ≤ 100000 by omega) (by decide)
          · rw [upd_ne (ne_of_none q hD)]; exact s4 _ _ (s3 _ _ (s2 _ _ (sm _ _ q)))
          · have T : Tup X.K H4 (upd H4 D (.lst (vs ++ [u]))) := tup_upd hv4
            rw [e2]
            exact dpAll_append (dpAll_tup T _ _ n2.1 (dpAll_same s4 _ _ dv3)) (.cons (dp_tup T _ _ hne h4) .nil)
  · have e : k = ds.length := by omega
    subst e
    exact .inl ⟨W.stop H' sm, q D vs H' (s1.trans sm) (s1.free hD) hv dv⟩
end
theorem env_non {K : PySem.W.Frag} {H : Hp} : ∀ (σ : L2.St), EnvD K H H σ (List.replicate σ.length .non) := fun σ => by
  refine ⟨Same.refl H, by simp, fun i s e => ?_, fun i j ds es l e1 _ _ _ => ?_⟩
  · rw [List.getElem?_replicate] at e
    split at e
    · cases e; trivial
    · cases e
  · rw [List.getElem?_replicate] at e1
    split at e1 <;> cases e1
theorem flat_sd (S : Shr) : Flat 3 (sd S) := flat_tup fun d h => by
  obtain ⟨r, _, rfl⟩ := List.mem_map.mp h
  exact flat_pd _
theorem eqv_pr (a b : Rat × Rat) : PyData.eqv (pr a) (pr b) = decide (a = b) := by
  unfold pr
  rw [eqv_pd]
  obtain ⟨a1, a2⟩ := a
  obtain ⟨b1, b2⟩ := b
  simp [Prod.ext_iff]
theorem eqv_sd (S O : Shr) : PyData.eqv (sd S) (sd O) = decide (S = O) := by
  unfold sd
  rw [PyData.eqv]
  exact eqvAll_map eqv_pr S O
theorem share_go {X : Cx} {H : Hp} {σ : L2.St} {p l c : Addr} {ls cs : List Int} {n : Nat} {Q : VK} {p1 p2 p3 p4 : Pos} {j : Nat} (F : Fn X.prog X.w X.K X.mg X.base "_law_share" ["_law_state", "_law_few"] 3 (spShare X.K)) (hr : Room 3 X.A) (hσ : σ[0]? = some (some (.ref p))) (S : StAt H p l c ls cs n) (hn : n < 2 ^ 49)
    (q : ∀ (v : V) (H' : Hp) (S : Shr) (ls' : List Int) (n' : Nat), GoodS S → Dp X.K H' v (sd S) → StAt H' p l c ls' cs n' → n' ≤ n + 20 → Fr p l H H' → Q v H')
    (hg : Gl X "_law_share" := by rfl) (hN : X.N[0]? = some ("_law_state" : Str) := by rfl) (hv : Vis X.env.scope "_law_state" := by first | exact Or.inl rfl | exact Or.inr (Or.inl rfl) | exact Or.inr (Or.inr rfl))
    (he : starEach [.Name "_law_state" p2, .Constant (.int 3) j p3] X.env = (false, eval (.Name "_law_state" p2) X.env) :: starEach [.Constant (.int 3) j p3] X.env := by rfl) (he' : starEach [.Constant (.int 3) j p3] X.env = (false, eval (.Constant (.int 3) j p3) X.env) :: starEach [] X.env := by rfl)
    (hpl : (backTo p4 (starEach [.Constant (.int 3) j p3] X.env)).any (·.1) = false := by rfl) :
    cE X (.Call (.Name "_law_share" p1) [.Name "_law_state" p2, .Constant (.int 3) j p3] [] p4) σ H Q := by
  obtain ⟨f, fd, h1, hk, hb, F⟩ := F.ex
  refine e_of (pe_call (CX := CX0) (E := E0) F hr hg h1 hk hb .nil pass0 (pa_cons (pv 0 hN hv) (pa_cons pe_int pa_nil he') he) (by decide) he hpl) ?_
  exact ⟨_, hσ, p, l, c, ls, cs, n, rfl, S, hn, q⟩
section
variable {P : Program} {w : World} {K : PySem.W.Frag} {mg : Str → Option Value} {base : Heap}
def spGood : Sp := fun vs H Q _ => ∃ (p l c : Addr) (ls cs : List Int) (n : Nat), vs = [.ref p] ∧ StAt H p l c ls cs n ∧ n < 2 ^ 48 ∧ ∀ (H' : Hp) (ls' : List Int) (n' : Nat), StAt H' p l c ls' cs n' → n' ≤ n + 40 → Q (.bl true) H'
theorem ok_good (T : Tx K mg) (G : ∀ S, GoodS S → GF S) (V : ∀ S O, GoodS S → GoodS O → (moms S (2 * max S.length O.length - 1) = moms O (2 * max S.length O.length - 1) ↔ S = O)) : Fn P w K mg base "_law_good" ["_law_state"] 11 spGood :=
  Fn.ofS T.d__law_good sc__law_good bd__law_good (fun _ _ _ _ h => by obtain ⟨p, l, c, ls, cs, n, rfl, _⟩ := h; rfl) fun f cdv A outer s H vs Q E hr h => by
    obtain ⟨p, l, c, ls, cs, n, rfl, S0, hn, q⟩ := h
    refine cs_cons (s_of (ps_par rfl sc__law_good.nd (i := 1) (j := 2) rfl rfl (by decide) rfl rfl (pa_cons c_e (pa_cons c_e pa_nil rfl) rfl) rfl rfl) ?_)
    refine share_go (ok_share T) (hr.mono (by decide)) rfl S0 (by omega) fun v1 H1 S ls1 n1 gS hv1 S1 hn1 F1 => ?_
    refine share_go (ok_share T) (hr.mono (by decide)) rfl S1 (by omega) fun v2 H2 O ls2 n2 gO hv2 S2 hn2 F2 => ?_
    refine ⟨v1, v2, rfl, ?_⟩
    show cSs _ _ _ _ _
    have E0 := ((env_non (K := K) (H := H2) (start N__law_good [.ref p])).setD 1 (dp_tup (F2.tup S1) _ _ (nol_sd S) hv1)).setD 2 hv2
    refine cs_end (R := fun d => d = .bool true) E0 ?_ fun v H' d s' hd e => by subst e; cases hd; exact q H' ls2 n2 (S2.same s') (by omega)
    clear E0 hv1 hv2 S2 F2 S1 F1
    obtain ⟨hS, hM, Pk, Hk, Ak, A, B, B', last, R1, R2, g⟩ := G S gS
    have gO' := G O gO
    have hK := gS.ne
    have hK3 := gS.few
    have hO1 := gO.ne
    have hO3 := gO.few
    have lA : A.length = S.length := by rw [g.eA]; simp
    have pl1 : plad Hk Ak S.length (if false then S.length + 1 else S.length) = ld (Hk 0) A B := by rw [g.eA, g.eB]; rfl
    have pl2 : plad Hk Ak (S.length - 1) (if true then S.length - 1 + 1 else S.length - 1) = ld (Hk 0) A B' := by
      rw [g.eA, g.eB']
      unfold plad
      rw [if_pos rfl, show S.length - 1 + 1 = S.length by omega]
    have h17 : fr (1 / 7) = .tuple [.int 1, .int 7] := by
      have e1 : ((1 : Rat) / 7).num = 1 := by decide +kernel
      have e2 : ((1 : Rat) / 7).den = 7 := by decide +kernel
      unfold fr
      rw [e1, e2]; rfl
    have fz17 : Fz (1 / 7) := ⟨by rw [show ((1 : Rat) / 7).num = 1 by decide +kernel]; exact Nat.one_lt_two_pow (by decide), by rw [show ((1 : Rat) / 7).den = 7 by decide +kernel]; exact Nat.lt_of_lt_of_le (by decide : 7 < 2 ^ 3) (Nat.pow_le_pow_right (by decide) (by decide))⟩
    -- _law_many
    refine ss_cons (s1_set 3 sc__law_good.nd (d := .int (S.length : Int)) (EV.is (ev_lenT (ds := S.map pr) T.b_len (ev_var 1)) (by rw [sdl])) ?_)
    -- _law_row
    refine ss_cons (s1_set 4 sc__law_good.nd (ev_call (ok_moments T) (hr.mono (by decide)) (ea_cons (ev_var 1) (ea_cons (EV.is (ev_mulS ev_int (ev_var 3) (.inl ⟨by decide, by decide⟩)) (show PyData.int _ = .int ((2 * S.length : Nat) : Int) by simp)) ea_nil)) (.mk S (2 * S.length) hS (hM.mono (by omega)) (by omega))) ?_)
    -- _law_ladder_so
    refine ss_cons (s1_set 5 sc__law_good.nd (EV.is (ev_call (ok_ladder_of T) (hr.mono (by decide)) (ea_cons (ev_var 4) ea_nil) (.mk _ Pk Hk Ak S.length false R1)) pl1) ?_)
    refine ss_cons (s1_ifF (et_w (ew_orF ?_ (ew_orF ?_ (ew_or1 ?_)))) (ss_nil ?_))
    · exact et_cmpE (ec_notB (ev_call (ok_is_of_share T) (hr.mono (by decide)) (ea_cons (ev_var 4) ea_nil) (.mk _ Pk Hk Ak S.length false R1)) ev_bl) rfl
    · exact et_cmpE (ec_notB (ev_call (ok_is_ended T) (hr.mono (by decide)) (ea_cons (ev_var 5) ea_nil) (.mk _ _ _ g.l1)) ev_bl) (by rw [g.e1]; rfl)
    · exact et_cmpE (ec_neI (ev_lenT (ds := A.map fr) T.b_len (ev_ix1 (ev_var 5))) (ev_var 3)) (by rw [List.length_map, lA]; simp)
    refine ss_cons (s1_ifF (et_w (ew_orF ?_ (ew_or1 ?_))) (ss_nil ?_))
    · refine et_cmpE (ec_notB (ev_call (ok_is_ended T) (hr.mono (by decide)) (ea_cons (EV.is (ev_call (ok_ladder_of T) (hr.mono (by decide)) (ea_cons (EV.is (ev_slTto (ds := (moms S (2 * S.length)).map fr) (ev_var 4) (ev_neg ev_int)) (show _ = pd (moms S (2 * S.length - 1)) from ?_)) ea_nil) (.mk _ Pk Hk Ak (S.length - 1) true R2)) pl2) ea_nil) (.mk _ _ _ g.l2)) ev_bl) (by rw [g.e2]; rfl)
      rw [cutD_m1, ← List.map_dropLast, show 2 * S.length = (2 * S.length - 1) + 1 by omega, moms_drop]
      rfl
    · refine et_cmpE (ec_nePd hr.units (ev_call (ok_row_of T) (hr.mono (by decide)) (ea_cons (ev_var 5) (ea_cons ev_int ea_nil)) (.mk (Hk 0) A B 8 (by decide) g.l1 g.e1 g.st)) (ev_call (ok_lmoments T) (hr.mono (by decide)) (ea_cons (ev_var 1) (ea_cons ev_int ea_nil)) (.mk S 8 hM (by decide) (by omega)))) ?_
      have : (List.range (8 + 1)).map (fun k => co (wss (Hk 0) A B k) 0) = moms S 8 := by
        unfold moms
        exact List.map_congr_left fun k hk => g.ws k (by have := List.mem_range.mp hk; omega)
      rw [this]; simp
    -- _law_last
    refine ss_cons (s1_set 6 sc__law_good.nd (d := pd last) (ev_ixT (ev_call (ok_rung_polys T) (hr.mono (by decide)) (ea_cons (ev_var 5) ea_nil) (.mk _ A B g.l1 (by rw [lA, g.eB]; simp) g.nx)) (ev_var 3) (atI_nat (by rw [g.la, lA]; simp))) ?_)
    refine ss_cons (s1_ifF (et_cmpE (ec_neFs (r := []) (s := []) hr.units (EL.ev (el_lcTI 7 8 sc__law_good.nd rfl (by decide) (it_tup (ds := S.map pr) (ev_var 1) stays_c) ?_ ?_ (fun _ => []) rfl (fun _ _ => rfl) ?_ ?_)) (EL.ev (el_lst ea_nil))) (by simp)) (ss_nil ?_))
    · exact blkOk_by (N := N__law_good) (sc := defScope s__law_good) (by decide +kernel)
    · exact fun _ _ _ _ _ => pg_tup rfl (pgs_cons (pg_name sc__law_good.nd rfl (Or.inl rfl)) (pgs_cons (pg_name sc__law_good.nd rfl (Or.inl rfl)) pgs_nil))
    · rw [sdl]; omega
    · intro k d hd
      obtain ⟨a, ha, rfl⟩ := map_one hd
      have hm := List.mem_of_getElem? ha
      obtain ⟨h0, h1, h2⟩ := g.w0 a hm
      refine ⟨fr a.1, fr a.2, false, rfl, fun s Hb C cl fp => ?_, (fun h => by cases h), fun _ => rfl⟩
      exact et_cmpE (ec_neFr (s := 0) hr.units (ev_call (ok_worth_at T) (hr.mono (by decide)) (ea_cons (ev_var 6) (ea_cons (ev_var 7) ea_nil)) (.mk last a.1 g.pol g.len (gS.num a hm).fz g.fl h1 h2)) (ev_tup (ea_cons ev_int (ea_cons ev_int ea_nil)))) (by simp [h0])
    -- _law_away
    refine ss_cons (s1_setLcT 9 7 8 (es := (S.map fun a => a.1 + 1 / 7).map fr) sc__law_good.nd rfl (by decide) (it_tup (ds := S.map pr) (ev_var 1) stays_c) ?_ ?_ ?_ (nolAll_fr _) ?_ ?_ ?_ rfl)
    · exact blkOk_by (N := N__law_good) (sc := defScope s__law_good) (by decide +kernel)
    · exact fun _ _ _ _ _ => pg_tup rfl (pgs_cons (pg_name sc__law_good.nd rfl (Or.inl rfl)) (pgs_cons (pg_name sc__law_good.nd rfl (Or.inl rfl)) pgs_nil))
    · simp
    · rw [sdl]; omega
    · intro k d e h1 h2
      rw [List.map_map] at h2
      obtain ⟨a, ha, rfl, rfl⟩ := map_two h1 h2
      refine ⟨fr a.1, fr a.2, rfl, fun s Hb C cl fp => ?_⟩
      exact ev_call (ok_plus T) (hr.mono (by decide)) (ea_cons (ev_var 7) (ea_cons (EV.is (ev_tup (ea_cons ev_int (ea_cons ev_int ea_nil))) h17.symm) ea_nil)) (.mk a.1 (1 / 7) (gS.num a ha).fz fz17)
    refine ss_cons (s1_ifF (et_cmpE (ec_neFs (r := []) (s := []) hr.units (EL.ev (el_lcI 10 sc__law_good.nd rfl rfl (it_listC (ds := (S.map fun a => a.1 + 1 / 7).map fr) (ev_var 9)) ?_ ?_ (fun _ => []) rfl (fun _ _ => rfl) ?_ ?_)) (EL.ev (el_lst ea_nil))) (by simp)) (ss_nil ?_))
    · exact blkOk_by (N := N__law_good) (sc := defScope s__law_good) (by decide +kernel)
    · exact fun _ _ _ _ _ => pg_name sc__law_good.nd rfl (Or.inl rfl)
    · simp; omega
    · intro k d hd
      obtain ⟨y, hy, rfl⟩ := map_one hd
      obtain ⟨a, ha, rfl⟩ := List.mem_map.mp (List.mem_of_getElem? hy)
      obtain ⟨hf, h0, h1, h2⟩ := g.w1 a ha
      refine ⟨false, fun s Hb C cl fp => ?_, (fun h => by cases h), fun _ => rfl⟩
      exact et_cmpE (ec_eqFr (s := 0) hr.units (ev_call (ok_worth_at T) (hr.mono (by decide)) (ea_cons (ev_var 6) (ea_cons (ev_var 10) ea_nil)) (.mk last _ g.pol g.len hf g.fl h1 h2)) (ev_tup (ea_cons ev_int (ea_cons ev_int ea_nil)))) (by simp [h0])
    -- _law_top
    obtain ⟨top, htop⟩ : ∃ top : Nat, 2 * max S.length O.length - 1 = top := ⟨_, rfl⟩
    have hV := V S O gS gO
    rw [htop] at hV
    refine ss_cons (s1_set 11 sc__law_good.nd (d := .int (top : Int)) (EV.is (ev_sub (ev_mulS ev_int (ev_max rfl T.b_max (ev_var 3) (EV.is (ev_lenT (ds := O.map pr) T.b_len (ev_var 2)) (show _ = PyData.int (O.length : Int) by rw [sdl]))) (.inl ⟨by decide, by decide⟩)) ev_int) (by congr 1; omega)) ?_)
    refine ss_one (s1_ret (EV.is (ev_cmp (ec_eqB ((ev_cmp (ec_eqPd hr.units (ev_call (ok_moments T) (hr.mono (by decide)) (ea_cons (ev_var 1) (ea_cons (ev_var 11) ea_nil)) (.mk S top hS (hM.mono (by omega)) (by omega))) (ev_call (ok_moments T) (hr.mono (by decide)) (ea_cons (ev_var 2) (ea_cons (ev_var 11) ea_nil)) (.mk O top gO'.sh (gO'.mo.mono (by omega)) (by omega)))))) (ev_cmp (ec_eqD hr.units (ev_var 1) (ev_var 2) (flat_sd S).shaped (flat_sd O).shaped)))) ?_) rfl)
    rw [eqv_sd]
    by_cases h : S = O
    · simp [h]
    · simp [h, hV]
end
end RS

set_option Elab.async false
set_option linter.all false
set_option maxRecDepth 100000
set_option maxHeartbeats 1000000
/-! The law. -/
namespace RS
open PySem PySem.Spec PyProof.Rows L2
/-! a share by hand -/
def S2 : Shr := [(-1, 1), (1, 1)]
theorem good_S2 : GoodS S2 := by
  refine ⟨by decide, by decide, by decide +kernel, ?_, ?_⟩
  · intro a ha
    simp only [S2, List.mem_cons, List.not_mem_nil, or_false] at ha
    rcases ha with rfl | rfl
    · exact ⟨-1, 1, by decide, by decide, by decide, by decide, by decide +kernel⟩
    · exact ⟨1, 1, by decide, by decide, by decide, by decide, by decide +kernel⟩
  · intro a ha
    simp only [S2, List.mem_cons, List.not_mem_nil, or_false] at ha
    rcases ha with rfl | rfl
    · exact ⟨1, 1, by decide, by decide, by decide, by decide, by decide +kernel⟩
    · exact ⟨1, 1, by decide, by decide, by decide, by decide, by decide +kernel⟩
theorem moms_S2 : moms S2 4 = [2, 0, 2, 0, 2] := by decide +kernel
theorem se_tup {elts es : List Expr} {n : Nat} {pos : Pos} {env : Env} : starEach (.Tuple elts n pos :: es) env = (false, eval (.Tuple elts n pos) env) :: starEach es env := rfl
theorem se_con {c : Const} {es : List Expr} {n : Nat} {pos : Pos} {env : Env} : starEach (.Constant c n pos :: es) env = (false, eval (.Constant c n pos) env) :: starEach es env := rfl
section
variable {X : Cx} {H0 : Hp} {δ : List Sl}
theorem ea_consT {elts es : List Expr} {n : Nat} {pos : Pos} {d : PyData} {ds : List PyData} (ha : EV X H0 δ (.Tuple elts n pos) d) (hr : EA X H0 δ es ds) : EA X H0 δ (.Tuple elts n pos :: es) (d :: ds) := ea_cons ha hr se_tup
theorem ea_consC {c : Const} {es : List Expr} {n : Nat} {pos : Pos} {d : PyData} {ds : List PyData} (ha : EV X H0 δ (.Constant c n pos) d) (hr : EA X H0 δ es ds) : EA X H0 δ (.Constant c n pos :: es) (d :: ds) := ea_cons ha hr se_con
theorem ev_callT {elts : List Expr} {n k : Nat} {pos pos' p : Pos} {x : Str} {ps : List Str} {d d' : PyData} {R : List PyData → PyData → Prop} (F : Fn X.prog X.w X.K X.mg X.base x ps k (spD X.K R)) (hr : Room k X.A) (ha : EV X H0 δ (.Tuple elts n pos) d) (hR : R [d] d') (hg : Gl X x) (hdb : (x == ("__debug__" : Str)) = false := by decide) :
    EV X H0 δ (.Call (.Name x p) [.Tuple elts n pos] [] pos') d' := ev_call F hr (ea_consT ha ea_nil) hR hg hdb se_tup rfl
theorem ev_fr2 {a b : Int} {j1 j2 j3 : Nat} {p1 p2 p3 : Pos} : EV X H0 δ (.Tuple [.Constant (.int a) j1 p1, .Constant (.int b) j2 p2] j3 p3) (.tuple [.int a, .int b]) := ev_tup (ea_consC ev_int (ea_consC ev_int ea_nil))
theorem ev_row5 {a1 a2 a3 a4 a5 b1 b2 b3 b4 b5 : Int} {j1 j2 j3 j4 j5 k1 k2 k3 k4 k5 m1 m2 m3 m4 m5 m6 : Nat} {p1 p2 p3 p4 p5 q1 q2 q3 q4 q5 r1 r2 r3 r4 r5 r6 : Pos} :
    EV X H0 δ (.Tuple [.Tuple [.Constant (.int a1) j1 p1, .Constant (.int b1) k1 q1] m1 r1, .Tuple [.Constant (.int a2) j2 p2, .Constant (.int b2) k2 q2] m2 r2, .Tuple [.Constant (.int a3) j3 p3, .Constant (.int b3) k3 q3] m3 r3, .Tuple [.Constant (.int a4) j4 p4, .Constant (.int b4) k4 q4] m4 r4, .Tuple [.Constant (.int a5) j5 p5, .Constant (.int b5) k5 q5] m5 r5] m6 r6)
      (.tuple [.tuple [.int a1, .int b1], .tuple [.int a2, .int b2], .tuple [.int a3, .int b3], .tuple [.int a4, .int b4], .tuple [.int a5, .int b5]]) :=
  by
  refine ev_tup ?_
  refine ea_consT ?_ ?_
  · exact ev_fr2
  refine ea_consT ?_ ?_
  · exact ev_fr2
  refine ea_consT ?_ ?_
  · exact ev_fr2
  refine ea_consT ?_ ?_
  · exact ev_fr2
  refine ea_consT ?_ ?_
  · exact ev_fr2
  exact ea_nil
theorem ev_lad2 {a1 a2 a3 a4 a5 b1 b2 b3 b4 b5 : Int} {j1 j2 j3 j4 j5 k1 k2 k3 k4 k5 m1 m2 m3 m4 m5 m6 m7 m8 : Nat} {p1 p2 p3 p4 p5 q1 q2 q3 q4 q5 r1 r2 r3 r4 r5 r6 r7 r8 : Pos} :
    EV X H0 δ (.Tuple [.Tuple [.Constant (.int a1) j1 p1, .Constant (.int b1) k1 q1] m1 r1, .Tuple [.Tuple [.Constant (.int a2) j2 p2, .Constant (.int b2) k2 q2] m2 r2, .Tuple [.Constant (.int a3) j3 p3, .Constant (.int b3) k3 q3] m3 r3] m7 r7, .Tuple [.Tuple [.Constant (.int a4) j4 p4, .Constant (.int b4) k4 q4] m4 r4, .Tuple [.Constant (.int a5) j5 p5, .Constant (.int b5) k5 q5] m5 r5] m8 r8] m6 r6)
      (.tuple [.tuple [.int a1, .int b1], .tuple [.tuple [.int a2, .int b2], .tuple [.int a3, .int b3]], .tuple [.tuple [.int a4, .int b4], .tuple [.int a5, .int b5]]]) :=
  by
  refine ev_tup ?_
  refine ea_consT ?_ ?_
  · exact ev_fr2
  refine ea_consT ?_ ?_
  · refine ev_tup ?_
    refine ea_consT ?_ ?_
    · exact ev_fr2
    refine ea_consT ?_ ?_
    · exact ev_fr2
    exact ea_nil
  refine ea_consT ?_ ?_
  · refine ev_tup ?_
    refine ea_consT ?_ ?_
    · exact ev_fr2
    refine ea_consT ?_ ?_
    · exact ev_fr2
    exact ea_nil
  exact ea_nil
end
theorem fr0 : fr 0 = .tuple [.int 0, .int 1] := rfl
theorem fr1 : fr 1 = .tuple [.int 1, .int 1] := rfl
theorem fr2 : fr 2 = .tuple [.int 2, .int 1] := rfl
theorem fr_int (n : Int) : fr (n : Rat) = .tuple [.int n, .int 1] := rfl
theorem plad_S2 {Pk : Nat → List Rat} {Hk Ak : Nat → Rat} (h : RoOk (moms S2 4) Pk Hk Ak 2 false) : plad Hk Ak 2 (if false then 3 else 2) = ld 2 [0, 0] [1, 0] := by
  have b := h.p.b
  obtain ⟨l, hl⟩ := b.h0
  rw [moms_S2] at hl
  have e0 : Hk 0 = 2 := (List.cons.inj hl).1.symm
  have a0 : Ak 0 = 0 := by
    rw [(b.lv 0 (.inl (by decide))).2, b.p0, e0, moms_S2]
    decide +kernel
  have p1 : Pk 1 = [0, 1] := by
    rw [(b.nx 0 (by decide)).2, b.p0, a0]
    show nxt [1] [] 0 0 = _
    decide +kernel
  have h1 : Hk 1 = 2 := by
    rw [(b.sq 0 (by decide)).2.2, p1, moms_S2]
    decide +kernel
  have a1 : Ak 1 = 0 := by
    rw [(b.lv 1 (.inl (by decide))).2, p1, h1, moms_S2]
    decide +kernel
  have h2 : Hk 2 = 0 := by
    have := b.last
    rwa [if_neg (by decide)] at this
  unfold plad
  show ld (Hk 0) ((List.range 2).map Ak) ((List.range 2).map fun k => Hk (k + 1) / Hk k) = _
  show ld (Hk 0) [Ak 0, Ak 1] [Hk 1 / Hk 0, Hk 2 / Hk 1] = _
  rw [e0, h1, h2, a0, a1]
  rw [show (2 : Rat) / 2 = 1 by decide +kernel, show (0 : Rat) / 2 = 0 by decide +kernel]
theorem eqv_ld (t : Rat) (A B : List Rat) : PyData.eqv (ld t A B) (ld t A B) = true := by
  unfold ld
  simp [PyData.eqv, PyData.eqvAll, eqv_fr, eqv_pd]
theorem EC.is {X : Cx} {H0 : Hp} {δ : List Sl} {op : CmpOp} {a b : Expr} {d d' : PyData} (h : EC X H0 δ op a b d) (w : d = d') : EC X H0 δ op a b d' := w ▸ h
theorem flat_ld (t : Rat) (A B : List Rat) : Flat 3 (ld t A B) := flat_tup fun d h => by
  rcases List.mem_cons.mp h with rfl | h
  · exact flat_mono (flat_fr t) (by decide)
  · rcases List.mem_cons.mp h with rfl | h
    · exact flat_pd A
    · rcases List.mem_cons.mp h with rfl | h
      · exact flat_pd B
      · cases h
section
variable {P : Program} {w : World} {K : PySem.W.Frag} {mg : Str → Option Value} {base : Heap}
def spErr : Sp := fun vs H Q _ => vs = [] ∧ ∀ H', Same H H' → Q (.bl true) H'
def spLaw (K : PySem.W.Frag) : Sp := fun vs H Q _ => ∃ (a : Addr) (ns : List Int), vs = [.ref a] ∧ SqL K H a (ns.map V.int) ∧ ns.length ≤ 63 ∧ ∀ H', Q (.bl true) H'
theorem ok_law {fL : Addr} {fdL : FuncData} (F : Fun K "law" "law" s_law fL fdL) (T : Tx K mg) (Er : Fn P w K mg base "_law_errors_good" [] 11 spErr) (G : ∀ S, GoodS S → GF S) (V : ∀ S O, GoodS S → GoodS O → (moms S (2 * max S.length O.length - 1) = moms O (2 * max S.length O.length - 1) ↔ S = O)) : FnOk P w K mg base CX0 12 fL fdL ["_law_script"] (spLaw K) :=
  F.ok sc_law (fun _ _ _ _ h => by obtain ⟨a, ns, rfl, _⟩ := h; rfl) fun cdv A outer s H vs Q E hr h => ⟨_, c_ss, by
    obtain ⟨a, ns, rfl, hL, hns, q⟩ := h
    obtain ⟨_, _, Pk, Hk, Ak, _, _, _, _, R1, _, _⟩ := G S2 good_S2
    replace R1 : RoOk (moms S2 4) Pk Hk Ak 2 false := R1
    have EE : EnvD K H H (start N_law [.ref a]) (init N_law [.list (ns.map PyData.int)]) := env_init (.cons (.lst hL (dp_intsA ns)) .nil)
    -- the errors
    refine cs_cons (s_of (ps_if (pt_not (pt_val c_e (fun _ => rfl))) c_ss c_ss) ?_)
    obtain ⟨fe, fde, m1, k1, b1, F1⟩ := Er.ex
    refine e_of (pe_call0 (CX := CX0) (E := E0) F1 hr rfl m1 k1 b1 .nil pass0) ⟨rfl, fun H1 s1 => ⟨true, rfl, ?_⟩⟩
    refine ss_of pss_nil ?_
    show cSs _ _ _ _ _
    replace EE := EE.mono s1
    have e1 : PyData.tuple [.tuple [.int 2, .int 1], .tuple [.int 0, .int 1], .tuple [.int 2, .int 1], .tuple [.int 0, .int 1], .tuple [.int 2, .int 1]] = pd (moms S2 4) := by
      rw [moms_S2]
      unfold pd
      simp only [List.map_cons, List.map_nil, fr0, fr1, fr2]
    have e2 : PyData.tuple [.tuple [.int 2, .int 1], .tuple [.tuple [.int 0, .int 1], .tuple [.int 0, .int 1]], .tuple [.tuple [.int 1, .int 1], .tuple [.int 0, .int 1]]] = ld 2 [0, 0] [1, 0] := by
      unfold ld pd
      simp only [List.map_cons, List.map_nil, fr0, fr1, fr2]
    -- a ladder by hand
    refine cs_cons (s_of (ps_if c_t c_ss c_ss) (ET.go EE (et_cmp (k := false) (EC.is (ec_neD hr.units (d := ld 2 [0, 0] [1, 0]) (d' := ld 2 [0, 0] [1, 0]) ?_ ?_ (flat_ld 2 [0, 0] [1, 0]).shaped (flat_ld 2 [0, 0] [1, 0]).shaped) ?_)) fun H2 s2 => ?_))
    · have hR : R_ladder_of [pd (moms S2 4)] (ld 2 [0, 0] [1, 0]) := by
        rw [← plad_S2 R1]
        exact .mk (moms S2 4) Pk Hk Ak 2 false R1
      have hr10 : Room 10 (A.deeper (envOfC (Str.ofString "law") (defScope s_law) s.heap.objs.size fL cdv)) := hr.mono (by decide)
      have hlad := ok_ladder_of (P := P) (w := w) (base := base) T
      rw [← e1] at hR
      refine ev_callT hlad hr10 ?_ hR rfl
      with_reducible exact ev_row5
    · rw [← e2]; with_reducible exact ev_lad2
    · rw [eqv_ld]; rfl
    rw [if_neg Bool.false_ne_true]
    refine ss_of pss_nil ?_
    show cSs _ _ _ _ _
    replace EE := EE.mono s2
    -- the dice
    refine cs_cons (s_of (ps_set sc_law.nd (i := 1) rfl (Or.inl rfl) c_e rfl (.inr rfl)) ?_)
    obtain ⟨fb, fdb, m2, k2, b2, F2⟩ := (ok_begin (P := P) (w := w) (base := base) T).ex
    refine e_of (pe_call (CX := CX0) (E := E0) F2 (hr.mono (by decide)) rfl m2 k2 b2 .nil pass0 (pa_cons c_e pa_nil) (by decide) rfl rfl) ?_
    refine EV.go EE (ev_var 0) fun v H3 s3 hv => ?_
    refine ⟨v, ns, rfl, hv, hns, fun p H4 l c ls cs s4 S4 => ?_⟩
    have EE4 := EE.mono (s3.trans s4)
    have E5 : EnvD K H4 H4 ((start N_law [.ref a]).set 1 (some (.ref p))) [.non, .raw (.ref p), .non] := by
      refine ⟨Same.refl _, rfl, fun i s e => ?_, fun i j ds es l e1 _ _ _ => ?_⟩
      · match i, e with
        | 0, e => cases e; trivial
        | 1, e => cases e; rfl
        | 2, e => cases e; trivial
        | n + 3, e => cases e
      · match i, e1 with
        | 0, e => cases e
        | 1, e => cases e
        | 2, e => cases e
        | n + 3, e => cases e
    have E6 : EnvD K H H4 ((start N_law [.ref a]).set 1 (some (.ref p))) [.arg (.list (ns.map PyData.int)), .non, .non] := by
      refine ⟨EE4.ex, rfl, fun i s e => ?_, fun i j ds es l e1 _ _ _ => ?_⟩
      · match i, e with
        | 0, e => cases e; exact EE4.at_ 0 _ rfl
        | 1, e => cases e; trivial
        | 2, e => cases e; trivial
        | n + 3, e => cases e
      · match i, e1 with
        | 0, e => cases e
        | 1, e => cases e
        | 2, e => cases e
        | n + 3, e => cases e
    show cSs _ _ _ _ _
    generalize (start N_law [.ref a]).set 1 (some (L2.V.ref p)) = σ4 at E5 E6
    refine cs_cons (s_of (ps_for PassesOwn.never rfl (pi_range1 rfl T.b_range (pa_cons c_e pa_nil)) (pg_name (i := 2) sc_law.nd rfl (Or.inl rfl)) c_ss) ?_)
    refine EV.go E6 (ev_add ev_int (ev_min rfl T.b_min (ev_lenL (ds := ns.map PyData.int) T.b_len (ev_var 0)) ev_int)) fun v H5 s5 hv => ?_
    cases hv
    rw [List.length_map]
    obtain ⟨N, hN⟩ : ∃ N : Nat, (2 + min (ns.length : Int) 3).toNat = N := ⟨_, rfl⟩
    refine ⟨_, rfl, by omega, by omega, ?_⟩
    have hN5 : N ≤ 5 := by omega
    rw [hN]
    refine ⟨fun k m σ' H' => m = N - k ∧ k ≤ N ∧ EnvD K H' H' σ' [.non, .raw (.ref p), .non] ∧ ∃ (ls' : List Int) (n' : Nat), StAt H' p l c ls' cs n' ∧ n' ≤ 40 * k, ⟨N, rfl, Nat.zero_le _, (E5.mono s5).rebase (Tup.refl _) rfl, ls, 0, S4.same s5, by omega⟩, ?_⟩
    rintro k m σ' H' ⟨rfl, hk, E7, ls', n', S7, hn'⟩
    by_cases hlt : k < N
    · refine .inr ⟨hlt, fun σ' H' => k + 1 ≤ N ∧ EnvD K H' H' σ' [.non, .raw (.ref p), .non] ∧ ∃ (ls' : List Int) (n' : Nat), StAt H' p l c ls' cs n' ∧ n' ≤ 40 * (k + 1), fun σ' H' ⟨a, b, c⟩ => ⟨N - (k + 1), by omega, rfl, a, b, c⟩, ?_⟩
      rintro x H8 ⟨rfl, rfl⟩
      have E8 := (E7.setD 2 (.int (0 + (k : Int)))).rebase (H' := H8) (Tup.refl _) rfl
      show cSs _ _ _ _ _
      generalize σ'.set 2 (some (L2.V.int (0 + (k : Int)))) = σ5 at E8
      refine cs_one (s_of (ps_if (pt_not (pt_val c_e (fun _ => rfl))) c_ss c_ss) ?_)
      obtain ⟨fg, fdg, m3, k3, b3, F3⟩ := (ok_good (P := P) (w := w) (base := base) T G V).ex
      refine e_of (pe_call (CX := CX0) (E := E0) F3 hr rfl m3 k3 b3 .nil pass0 (pa_cons (pv 1) pa_nil) (by decide) rfl rfl) ⟨_, E8.getRaw rfl, p, l, c, ls', cs, n', rfl, S7, by omega, fun H9 ls9 n9 S9 h9 => ⟨true, rfl, ?_⟩⟩
      refine ss_of pss_nil ?_
      refine ⟨hlt, ?_, ls9, n9, S9, by omega⟩
      refine ⟨Same.refl _, E8.len, fun i s e => ?_, fun i j ds es l e1 _ _ _ => ?_⟩
      · match i, e with
        | 0, e => cases e; trivial
        | 1, e => cases e; exact E8.at_ 1 _ rfl
        | 2, e => cases e; trivial
        | n + 3, e => cases e
      · match i, e1 with
        | 0, e => cases e
        | 1, e => cases e
        | 2, e => cases e
        | n + 3, e => cases e
    · refine .inl ⟨by show N ≤ k; omega, ?_⟩
      show cSs _ _ _ _ _
      exact cs_one (s_of (ps_ret pe_bl) (q _))⟩
end
end RS

set_option Elab.async false
set_option linter.all false
set_option maxRecDepth 100000
set_option maxHeartbeats 4000000
/-! Own exceptions over any built-in one, made by their own __init__: the class's maker may be that of a base (turned from the hand layer's road for one base, and from the worked proof 42_own_error_by_import). -/
namespace PySem
namespace RsX
open Builtin Builtin.ObjectAttr HandSPX
section
variable {M : Model} {A : Around} {E : Value → Shared → Prop} {h : Heap} {g : Array GenState} {d : Drawn} {t : Nat} {os : OsState}
variable {nm q : Str} {C N : Addr} {bs bm bmB : List Value} {hdct : Bool} {sn : List Str} {sub : List Value} {ab : Bool} {col : Option Bool} {dd : Option Addr} {k0 k1 k2 k3 k5 : Option Value} {B newId initId : String}
theorem x_check_new_own (F : ExcBaseFacts B newId initId bmB) (tB : bm.contains (.type B) = true) (tA : bm.contains (.type "AttributeError") = false) (tN : bm.contains (.type "NameError") = false) {rest : List Value} {Q : Unit → Shared → Prop}
    (hC : h.get? C = some (excClassObj nm q C N bs bm hdct sn sub ab col dd k0 k1 k2 k3 k5 newId)) (hq : Q () ⟨h, g, d, t, os⟩) : wpAny M A (checkBuiltinCall newId ⟨.ref C :: rest, []⟩) Q E ⟨h, g, d, t, os⟩ := by
  have hcont : (Value.ref C :: bm).contains (.type B) = true := by rw [List.contains_cons, tB, Bool.or_true]
  have hstar := F.noStar
  simp only [checkBuiltinCall, F.newKind, F.newSplit, F.newRow]
  repeat (first | refine wpAny_loadPart_at hC ?_ | (refine wpAny_isSubtype_exc hC ?_; rw [hcont]) | refine wpAny_staticBase_exc hC ?_ | refine wpAny_madeBy_exc hC ?_ | simp only [bne_self_eq_false, Bool.false_eq_true, if_false] | wp_step)
  exact hq
end
section
variable {prog : Program} {w : World} {A : Around} {E : Value → Shared → Prop} {R : Result → Shared → Prop} {h : Heap} {g : Array GenState} {d : Drawn} {t : Nat} {os : OsState}
variable {nm q : Str} {C N : Addr} {bs bm bmB : List Value} {hdct : Bool} {sn : List Str} {sub : List Value} {ab : Bool} {col : Option Bool} {dd : Option Addr} {k0 k1 k2 k3 k5 : Option Value} {B newId initId : String}
theorem x_new_own (F : ExcBaseFacts B newId initId bmB) (tB : bm.contains (.type B) = true) (tA : bm.contains (.type "AttributeError") = false) (tN : bm.contains (.type "NameError") = false) {rest : List Value}
    (hC : h.get? C = some (excClassObj nm q C N bs bm hdct sn sub ab col dd k0 k1 k2 k3 k5 newId))
    (hq : R (.ok (.ret (.ref (h.objs.size + 1)))) ⟨(h.push { cls := .type "tuple", data := .seq rest.toArray }).push
      { cls := .ref C, data := .fields #[.ref h.objs.size, .none, .none, .none, .bool false, .none] }, g, d, t, os⟩) (hrest : rest.length ≤ sizeLine) :
    codeAny (model prog w) A (.builtin newId ⟨.ref C :: rest, []⟩) R ⟨h, g, d, t, os⟩ := by
  have hends := F.ends
  have hcB : (Value.ref C :: bm).contains (.type B) = true := by rw [List.contains_cons, tB, Bool.or_true]
  have hcA : (Value.ref C :: bm).contains (.type "AttributeError") = false := by rw [List.contains_cons, tA]; rfl
  have hcN : (Value.ref C :: bm).contains (.type "NameError") = false := by rw [List.contains_cons, tN]; rfl
  refine codeAny_builtinAt F.entry ?_
  unfold Builtin.«BaseException.__new__»
  refine wpAt_bind ?_
  show wpAt _ _ _ (stack >>= _) _ _ _
  refine wpAt_bind (wpAt_stack fun p below => wpAt_of_wpAny ?_)
  wp_walk
  refine wpAt_of_wpAny ?_
  rw [F.owner]
  repeat (first | with_reducible refine wpAny_madeHere_exc F.canon hC ?_ | with_reducible refine wpAny_loadPart_at hC ?_ | (with_reducible refine wpAny_isSubtype_exc hC ?_; first | rw [hcB] | rw [hcA] | rw [hcN]) | wp_step)
  show R _ _
  rw [Heap.size_push]
  exact hq

theorem x_type_call_own (F : ExcBaseFacts B newId initId bmB) (tB : bm.contains (.type B) = true) (tA : bm.contains (.type "AttributeError") = false) (tN : bm.contains (.type "NameError") = false) {rest : List Value} {fI : Addr} {Q : Fin → Shared → Prop}
    (hC : h.get? C = some (excClassObj nm q C N bs bm hdct sn sub ab col dd k0 k1 k2 k3 k5 newId))
    (hi : W.Looks (model prog w) h (typeLookup (.ref C) "__init__") (some (.ref fI))) (hb : ∀ self, W.Looks (model prog w) h (bindSpecial (.ref fI) self) (.ref fI, [self])) (hrest : rest.length ≤ sizeLine)
    (hq : codeAny (model prog w) A (.call (.ref fI) ⟨.ref (h.objs.size + 1) :: rest, []⟩)
      (fun r s' => match r with | .ok (.ret v) => v = .none ∧ Q (.done (.ret (.ref (h.objs.size + 1)))) s' | .ok _ => False | .error e => E e s')
      ⟨(h.push (W.kdv_tup rest)).push (excO C h.objs.size), g, d, t, os⟩) :
    wpAny (model prog w) A (Builtin.«type.__call__» ⟨.ref C :: rest, []⟩) Q E ⟨h, g, d, t, os⟩ := by
  repeat (first | with_reducible refine wpAny_loadPart_at hC ?_ | with_reducible refine wpAny_madeBy_exc hC ?_ | wp_step)
  refine codeAny_call_builtin_code (Code.quiet_builtin _ F.quiet) (x_check_new_own F tB tA tN hC ?_)
  refine x_new_own F tB tA tN hC ?_ hrest
  show wpAny _ _ _ _ _ _
  have k : ∀ b o, h.get? b = some o → ((h.push (W.kdv_tup rest)).push (excO C h.objs.size)).get? b = some o := fun b o e => Heap.get?_push_of_some _ (Heap.get?_push_of_some _ e)
  have hC₁ := k _ _ hC
  have hget : ((h.push (W.kdv_tup rest)).push (excO C h.objs.size)).get? (h.objs.size + 1) = some (excO C h.objs.size) := by heap_get
  have hcC : (Value.ref C :: bm).contains (.ref C) = true := by simp
  have i1 := hi.keeps k
  have b1 := (hb (.ref (h.objs.size + 1))).keeps k
  unfold isInstance
  repeat (first | with_reducible refine wpAny_loadPart_at hget ?_ | (with_reducible refine wpAny_isSubtype_exc hC₁ ?_; rw [hcC]) | wp_step)
  show wpAny _ _ (typeLookup (.ref C) _) _ _ _
  refine i1.at ?_
  refine wpAny_holding (wpAny_bind (b1.at ?_))
  refine wpAny_bind (wpAny_call (codeAny_mono hq fun r s' z => ?_))
  rcases r with e | (v | _ | _ | _) <;> first | exact z | exact z.elim | skip
  obtain ⟨rfl, z⟩ := z
  first
    | exact wpAny_pure (wpAny_pure z)
    | (wp_walk; exact z)

theorem x_call_own (F : ExcBaseFacts B newId initId bmB) (tB : bm.contains (.type B) = true) (tA : bm.contains (.type "AttributeError") = false) (tN : bm.contains (.type "NameError") = false) {rest : List Value} {fI : Addr}
    (hC : h.get? C = some (excClassObj nm q C N bs bm hdct sn sub ab col dd k0 k1 k2 k3 k5 newId))
    (hi : W.Looks (model prog w) h (typeLookup (.ref C) "__init__") (some (.ref fI))) (hb : ∀ self, W.Looks (model prog w) h (bindSpecial (.ref fI) self) (.ref fI, [self])) (hrest : rest.length ≤ sizeLine)
    (hq : codeAny (model prog w) (A.under (.builtin "type.__call__" ⟨.ref C :: rest, []⟩)) (.call (.ref fI) ⟨.ref (h.objs.size + 1) :: rest, []⟩) (W.InitBack (h.objs.size + 1) R)
      ⟨(h.push (W.kdv_tup rest)).push (excO C h.objs.size), g, d, t, os⟩) :
    codeAny (model prog w) A (.call (.ref C) ⟨rest, []⟩) R ⟨h, g, d, t, os⟩ := by
  have f1 := tc_lookup
  have f2 := tc_bind (.ref C)
  have hTy : (⟨h, g, d, t, os⟩ : Shared).TypeIs (.ref C) "type" := ⟨_, hC, rfl⟩
  refine codeAny_of_tree ?_
  show wpAny _ _ (callAny (.ref C) _) _ _ _
  repeat (any_goals (first | assumption | with_reducible refine wpAny_loadPart_at hC ?_ | wp_step))
  refine ⟨rfl, ?_⟩
  refine codeAny_call_builtin_at (Code.quiet_builtin _ (by decide +kernel)) entry_typeCall (wpAny_check_type_call_sub hC (x_type_call_own F tB tA tN hC hi hb hrest ?_))
  refine codeAny_mono hq fun r s' z => ?_
  rcases r with e | (v | _ | _ | _) <;> exact z

end
end RsX
end PySem

set_option Elab.async false
set_option linter.all false
set_option maxRecDepth 100000
set_option maxHeartbeats 4000000
/-! The makers of own exceptions, each field's name by itself (printed by gen_exc.py; turned from the worked proof 42_own_error_by_import). -/
namespace PySem.F
theorem x_store_KeyError : StoreFacts "KeyError" [.type "KeyError", .type "LookupError", .type "Exception", .type "BaseException", .type "object"] "object.__setattr__" "object" where
  mro := by kernel_rfl
  slot := .of (owner := "object") (n := "__setattr__") (by rw [typeLookup_type, builtinLookup_eq_fast]; kernel_rfl) (by decide +kernel) (by decide +kernel) (by decide +kernel)
    (by first | exact .inl (by decide +kernel) | exact .inr (by decide +kernel)) (by rw [isSubtype_type]; kernel_rfl)
  entry := entry_object_sa
  kind := by decide +kernel
  split := by decide +kernel
  hasOwner := by decide +kernel
  args := fun a b c => by unfold argsOk; kernel_rfl
  passes := fun self => by kernel_rfl
end PySem.F
namespace PySem
namespace RsX
open PySem.W PySem.Calls PyProof.Rows PySem.HandSPX
/-- what the written part says of an own exception class, at C, and of its __init__, at fI -/
structure XC (K : Frag) (C fI : Addr) (T : String) (bmB : List Value) (B newId initId : String) (bmN : List Value) : Prop where
  fb : ExcBaseFacts B newId initId bmN
  st : StoreFacts T bmB "object.__setattr__" "object"
  nB : bmB.contains (.type B) = true
  nA : bmB.contains (.type "AttributeError") = false
  nN : bmB.contains (.type "NameError") = false
  q : excInitIn K C bmB newId = true
  ov : excOver K C bmB = true
  hd : hasDictIn K C = true
  sa : findIn K (.ref C) "__setattr__" = some (some (.builtin "object.__setattr__"))
  kC : keepIn K (.ref C) = true
  iC : findIn K (.ref C) "__init__" = some (some (.ref fI))
  tI : typeIn K (.ref fI) = some (.type "function")
/-- what __init__ leaves of a fresh exception at x -/
structure InitEnd (h h' : Heap) (x C dx t1 : Addr) (mA : Str → Option Value) : Prop where
  keep : ∀ b o, b ≠ x → h.get? b = some o → h'.get? b = some o
  obj : h'.get? x = some { cls := .ref C, dict := some dx, data := .fields #[.ref t1, .none, .none, .none, .bool false, .none] }
  dbig : h.objs.size ≤ dx
  dne : dx ≠ x
  ns : h'.Ns1 dx mA
/-- a made one -/
structure Made (h h' : Heap) (e C d : Addr) (mA : Str → Option Value) : Prop where
  keep : ∀ b o, h.get? b = some o → h'.get? b = some o
  new : h.objs.size ≤ e
  obj : ∃ t1 : Addr, h'.get? e = some { cls := .ref C, dict := some d, data := .fields #[.ref t1, .none, .none, .none, .bool false, .none] }
  dbig : h.objs.size ≤ d
  dne : d ≠ e
  ns : h'.Ns1 d mA
section
variable {prog : Program} {w : World} {A : Around} {E : Value → Shared → Prop} {R : Result → Shared → Prop} {hp : Heap} {g : Array GenState} {d : Drawn} {t : Nat} {os : OsState} {K : Frag} {C fI : Addr} {T : String} {bmB bmN : List Value} {B newId initId : String}
/-- the first store -/
theorem x_osa (Z : XC K C fI T bmB B newId initId bmN) {name : Str} {tk : Tok} {v : Value} {x : Addr} {fv : Array Value}
    (X : K.In hp) (hx : hp.get? x = some { cls := .ref C, data := .fields fv }) (ht : takerIn K C name = some none)
    (hq : ∀ h' tk' dx, (∀ b o, b ≠ x → hp.get? b = some o → h'.get? b = some o) → hp.objs.size ≤ dx → dx ≠ x → h'.get? x = some { cls := .ref C, dict := some dx, data := .fields fv } →
      h'.Ns1 dx (fun y => if y = name then some v else none) → R (.ok (.ret .none)) ⟨h', g, d, tk', os⟩) :
    codeAny (model prog w) A (.call (.builtin "object.__setattr__") ⟨[.ref x, .str name tk, v], []⟩) R ⟨hp, g, d, t, os⟩ := by
  have I : InstAt hp x { cls := .ref C, data := .fields fv } C none := ⟨hx, rfl, rfl, trivial⟩
  have hxs : x ≠ hp.objs.size := Nat.ne_of_lt (Heap.lt_size hx)
  obtain ⟨cd, hcd, hh⟩ := any_some Z.hd
  have hcls : Looks (model prog w) hp (classData C) cd := looks_clsIn X hcd
  refine osa_openX Z.st X I Z.ov ht fun b => ?_
  show wpAny _ _ (Builtin.ObjectAttr.storeInOwnDict (.ref x) (.ref C) (.str name tk) name v b) _ _ _
  obtain ⟨nm, bs, mro, ns, qn, hd, sn, sb, ab, col, del⟩ := cd
  dsimp only at hh
  subst hh
  unfold Builtin.ObjectAttr.storeInOwnDict Builtin.ObjectAttr.ownDictForStores
  repeat (first | with_reducible refine store_in_new ?_ ?_ | with_reducible refine wpAny_loadPart_at hx ?_ | with_reducible refine hcls.at ?_ | wp_step)
  · exact ⟨_, #[], _, (Heap.get?_update_ne _ _ _ _ hxs.symm).trans (Heap.get?_push_at rfl rfl), rfl, fun e he => absurd he (by simp), fun _ => rfl⟩
  · intro h' tk' hn' hs
    have hx₁ : (hp.push { cls := .type "dict", data := .dict #[] }).get? x = some { cls := .ref C, data := .fields fv } := Heap.get?_push_of_some _ hx
    refine hq h' tk' hp.objs.size (fun b o hb ho => ?_) (Nat.le_refl _) hxs.symm ?_ hn'
    · exact (hs.2 b (Nat.ne_of_lt (Heap.lt_size ho))).trans ((Heap.get?_update_ne _ _ _ _ hb).trans (Heap.get?_push_of_some _ ho))
    · exact (hs.2 x hxs).trans (Heap.get?_update_self _ hx₁ rfl)
/-- a further store -/
theorem x_osa_old (Z : XC K C fI T bmB B newId initId bmN) {name : Str} {tk : Tok} {v : Value} {x dx : Addr} {fv : Array Value} {m0 : Str → Option Value} {nl : List Str}
    (X : K.In hp) (hx : hp.get? x = some { cls := .ref C, dict := some dx, data := .fields fv }) (hns : hp.Ns1 dx m0) (hw : Within m0 nl) (hz : nl.length ≤ 1000) (ht : takerIn K C name = some none)
    (hq : ∀ h' tk', (∀ b o, b ≠ dx → hp.get? b = some o → h'.get? b = some o) → h'.Ns1 dx (fun y => if y = name then some v else m0 y) → R (.ok (.ret .none)) ⟨h', g, d, tk', os⟩) :
    codeAny (model prog w) A (.call (.builtin "object.__setattr__") ⟨[.ref x, .str name tk, v], []⟩) R ⟨hp, g, d, t, os⟩ := by
  obtain ⟨oD, esD, epD, hoD, hdD, _⟩ := hns.count hw
  have I : InstAt hp x { cls := .ref C, dict := some dx, data := .fields fv } C (some oD) := ⟨hx, rfl, rfl, hoD⟩
  obtain ⟨cd, hcd, hh⟩ := any_some Z.hd
  have hcls : Looks (model prog w) hp (classData C) cd := looks_clsIn X hcd
  refine osa_openX Z.st X I Z.ov ht fun b => ?_
  show wpAny _ _ (Builtin.ObjectAttr.storeInOwnDict (.ref x) (.ref C) (.str name tk) name v b) _ _ _
  obtain ⟨nm, bs, mro, ns, qn, hd, sn, sb, ab, col, del⟩ := cd
  dsimp only at hh
  subst hh
  unfold Builtin.ObjectAttr.storeInOwnDict Builtin.ObjectAttr.ownDictForStores
  repeat (first | with_reducible refine PySem.OEX.store_in_old hns hw hz ?_ | with_reducible refine wpAny_loadPart_at hx ?_ | with_reducible refine hcls.at ?_ | wp_step)
  intro h' tk' hn' hs
  exact hq h' tk' (fun b o hb ho => (hs.2 b hb).trans ho) hn'
theorem ldC {M : Model} {s : Shared} {name : Str} {scope : Scope} {L a : Addr} {cd : Value} {m : Str → Option Value} {x : Str} {pos : Pos} {v : Value} {Q : Value → Shared → Prop} {A : Around} {E : Value → Shared → Prop} (hn : s.heap.Ns L m) (hv : m x = some v) (h : Q v s)
    (hk : scope.kind = .function := by rfl) (hl : (envOfC name scope L a cd).kindOf x = some .local := by rfl) (hd : (x == ("__debug__" : Str)) = false := by decide) :
    wpAny M A (eval (.Name x pos) (envOfC name scope L a cd)) Q E s := wpAny_Name (wpAny_loadName_local hk hl hn hv h) hd
end
/-! ### texts -/
def iS (f : Str) : Scope := { kind := .function, names := [(PySem.Str.ofString "self", .local), (f, .local)], isGenerator := false, isCoroutine := false, more := [] }
def iA (f : Str) (p1 p2 : Pos) : Arguments := { posonlyargs := [], args := [{ arg := "self", annotation := none, pos := p1 }, { arg := f, annotation := none, pos := p2 }], vararg := none, kwonlyargs := [], kw_defaults := [], kwarg := none, defaults := [] }
def iB (f : Str) (q1 q2 q3 q4 : Pos) : List Stmt := [.Assign [.Attribute (.Name "self" q1) f q2] (.Name f q3) q4]
def iS2 (f f2 : Str) : Scope := { kind := .function, names := [(PySem.Str.ofString "self", .local), (f, .local), (f2, .local)], isGenerator := false, isCoroutine := false, more := [] }
def iA2 (f f2 : Str) (p1 p2 p3 : Pos) : Arguments := { posonlyargs := [], args := [{ arg := "self", annotation := none, pos := p1 }, { arg := f, annotation := none, pos := p2 }, { arg := f2, annotation := none, pos := p3 }], vararg := none, kwonlyargs := [], kw_defaults := [], kwarg := none, defaults := [] }
def iB2 (f f2 : Str) (q1 q2 q3 q4 r1 r2 r3 r4 : Pos) : List Stmt := [.Assign [.Attribute (.Name "self" q1) f q2] (.Name f q3) q4, .Assign [.Attribute (.Name "self" r1) f2 r2] (.Name f2 r3) r4]
section
variable {prog : Program} {w : World} {A : Around} {E : Value → Shared → Prop} {R : Result → Shared → Prop} {s : Shared} {K : Frag} {C fI : Addr} {T : String} {bmB bmN : List Value} {B newId initId : String}
variable {oc : Value} {od : Option Addr} {qual : Str} {doc pm : Value} {an : Option Addr} {cdv ct : Value} {osl : Array (Option Value)}
theorem x_init_part (Z : XC K C fI T bmB B newId initId bmN) {p1 p2 q1 q2 q3 q4 : Pos} (ho : K.lookup fI = some ⟨oc, od, .func (fnOf "__init__" qual (iA "part" p1 p2) (iB "part" q1 q2 q3 q4) (iS "part") .none .none doc pm an cdv ct), osl⟩) (hcd : codeIn K cdv qual = true) (ht : takerIn K C "part" = some none)
    {x t0 : Addr} {v : Value} (X : K.In s.heap) (hlim : s.heap.NoLimit) (hx : s.heap.get? x = some (excO C t0)) (hroom : A.depth < recursionLimit)
    (hq : ∀ h' tk dx, InitEnd s.heap h' x C dx t0 (fun y => if y = "part" then some v else none) → R (.ok (.ret .none)) { s with heap := h', toks := tk }) :
    codeAny (model prog w) A (.call (.ref fI) ⟨[.ref x, v], []⟩) R s := by
  refine Att.call_fn (binds := [("self", .ref x), ("part", v)]) X hlim ho hcd hroom (BindsTo.of_eq (by first | rfl | with_unfolding_all rfl)) (by first | rfl | decide | with_unfolding_all rfl) (fun s₁ IC => ?_) rfl rfl rfl
  obtain ⟨h₁, tk₁, rfl⟩ := IC.toInCall.same
  have k : ∀ b o, s.heap.get? b = some o → h₁.get? b = some o := IC.toInCall.keep
  have hn := IC.toInCall.ns
  have X₁ : K.In h₁ := X.keeps k
  have hx₁ := k _ _ hx
  show wpAny _ _ (execs _ _) _ _ _
  refine wpAny_execs_cons (plainObj_wpAny_Assign_Attribute ?_)
  refine ldC (v := v) hn (by first | rfl | with_unfolding_all rfl | kernel_rfl) (ldC (v := .ref x) hn (by first | rfl | with_unfolding_all rfl | kernel_rfl) ?_)
  refine set_plain X₁ (ox := excO C t0) (od := none) ⟨hx₁, rfl, rfl, trivial⟩ Z.sa ?_
  refine x_osa Z X₁ hx₁ ht (fun h₃ tk₃ dx k₃ dn dne hx₃ hn₃ => ?_)
  show wpAny _ _ (execs _ _) _ _ _
  have z : s.heap.objs.size < h₁.objs.size := hn.lt
  exact wpAny_execs_nil (hq h₃ tk₃ dx ⟨fun b o hb e => k₃ b o hb (k b o e), hx₃, Nat.le_of_lt (Nat.lt_of_lt_of_le z dn), dne, hn₃⟩)
theorem x_init_paper (Z : XC K C fI T bmB B newId initId bmN) {p1 p2 q1 q2 q3 q4 : Pos} (ho : K.lookup fI = some ⟨oc, od, .func (fnOf "__init__" qual (iA "paper" p1 p2) (iB "paper" q1 q2 q3 q4) (iS "paper") .none .none doc pm an cdv ct), osl⟩) (hcd : codeIn K cdv qual = true) (ht : takerIn K C "paper" = some none)
    {x t0 : Addr} {v : Value} (X : K.In s.heap) (hlim : s.heap.NoLimit) (hx : s.heap.get? x = some (excO C t0)) (hroom : A.depth < recursionLimit)
    (hq : ∀ h' tk dx, InitEnd s.heap h' x C dx t0 (fun y => if y = "paper" then some v else none) → R (.ok (.ret .none)) { s with heap := h', toks := tk }) :
    codeAny (model prog w) A (.call (.ref fI) ⟨[.ref x, v], []⟩) R s := by
  refine Att.call_fn (binds := [("self", .ref x), ("paper", v)]) X hlim ho hcd hroom (BindsTo.of_eq (by first | rfl | with_unfolding_all rfl)) (by first | rfl | decide | with_unfolding_all rfl) (fun s₁ IC => ?_) rfl rfl rfl
  obtain ⟨h₁, tk₁, rfl⟩ := IC.toInCall.same
  have k : ∀ b o, s.heap.get? b = some o → h₁.get? b = some o := IC.toInCall.keep
  have hn := IC.toInCall.ns
  have X₁ : K.In h₁ := X.keeps k
  have hx₁ := k _ _ hx
  show wpAny _ _ (execs _ _) _ _ _
  refine wpAny_execs_cons (plainObj_wpAny_Assign_Attribute ?_)
  refine ldC (v := v) hn (by first | rfl | with_unfolding_all rfl | kernel_rfl) (ldC (v := .ref x) hn (by first | rfl | with_unfolding_all rfl | kernel_rfl) ?_)
  refine set_plain X₁ (ox := excO C t0) (od := none) ⟨hx₁, rfl, rfl, trivial⟩ Z.sa ?_
  refine x_osa Z X₁ hx₁ ht (fun h₃ tk₃ dx k₃ dn dne hx₃ hn₃ => ?_)
  show wpAny _ _ (execs _ _) _ _ _
  have z : s.heap.objs.size < h₁.objs.size := hn.lt
  exact wpAny_execs_nil (hq h₃ tk₃ dx ⟨fun b o hb e => k₃ b o hb (k b o e), hx₃, Nat.le_of_lt (Nat.lt_of_lt_of_le z dn), dne, hn₃⟩)
theorem x_init_path (Z : XC K C fI T bmB B newId initId bmN) {p1 p2 q1 q2 q3 q4 : Pos} (ho : K.lookup fI = some ⟨oc, od, .func (fnOf "__init__" qual (iA "path" p1 p2) (iB "path" q1 q2 q3 q4) (iS "path") .none .none doc pm an cdv ct), osl⟩) (hcd : codeIn K cdv qual = true) (ht : takerIn K C "path" = some none)
    {x t0 : Addr} {v : Value} (X : K.In s.heap) (hlim : s.heap.NoLimit) (hx : s.heap.get? x = some (excO C t0)) (hroom : A.depth < recursionLimit)
    (hq : ∀ h' tk dx, InitEnd s.heap h' x C dx t0 (fun y => if y = "path" then some v else none) → R (.ok (.ret .none)) { s with heap := h', toks := tk }) :
    codeAny (model prog w) A (.call (.ref fI) ⟨[.ref x, v], []⟩) R s := by
  refine Att.call_fn (binds := [("self", .ref x), ("path", v)]) X hlim ho hcd hroom (BindsTo.of_eq (by first | rfl | with_unfolding_all rfl)) (by first | rfl | decide | with_unfolding_all rfl) (fun s₁ IC => ?_) rfl rfl rfl
  obtain ⟨h₁, tk₁, rfl⟩ := IC.toInCall.same
  have k : ∀ b o, s.heap.get? b = some o → h₁.get? b = some o := IC.toInCall.keep
  have hn := IC.toInCall.ns
  have X₁ : K.In h₁ := X.keeps k
  have hx₁ := k _ _ hx
  show wpAny _ _ (execs _ _) _ _ _
  refine wpAny_execs_cons (plainObj_wpAny_Assign_Attribute ?_)
  refine ldC (v := v) hn (by first | rfl | with_unfolding_all rfl | kernel_rfl) (ldC (v := .ref x) hn (by first | rfl | with_unfolding_all rfl | kernel_rfl) ?_)
  refine set_plain X₁ (ox := excO C t0) (od := none) ⟨hx₁, rfl, rfl, trivial⟩ Z.sa ?_
  refine x_osa Z X₁ hx₁ ht (fun h₃ tk₃ dx k₃ dn dne hx₃ hn₃ => ?_)
  show wpAny _ _ (execs _ _) _ _ _
  have z : s.heap.objs.size < h₁.objs.size := hn.lt
  exact wpAny_execs_nil (hq h₃ tk₃ dx ⟨fun b o hb e => k₃ b o hb (k b o e), hx₃, Nat.le_of_lt (Nat.lt_of_lt_of_le z dn), dne, hn₃⟩)
theorem x_init_given (Z : XC K C fI T bmB B newId initId bmN) {p1 p2 q1 q2 q3 q4 : Pos} (ho : K.lookup fI = some ⟨oc, od, .func (fnOf "__init__" qual (iA "given" p1 p2) (iB "given" q1 q2 q3 q4) (iS "given") .none .none doc pm an cdv ct), osl⟩) (hcd : codeIn K cdv qual = true) (ht : takerIn K C "given" = some none)
    {x t0 : Addr} {v : Value} (X : K.In s.heap) (hlim : s.heap.NoLimit) (hx : s.heap.get? x = some (excO C t0)) (hroom : A.depth < recursionLimit)
    (hq : ∀ h' tk dx, InitEnd s.heap h' x C dx t0 (fun y => if y = "given" then some v else none) → R (.ok (.ret .none)) { s with heap := h', toks := tk }) :
    codeAny (model prog w) A (.call (.ref fI) ⟨[.ref x, v], []⟩) R s := by
  refine Att.call_fn (binds := [("self", .ref x), ("given", v)]) X hlim ho hcd hroom (BindsTo.of_eq (by first | rfl | with_unfolding_all rfl)) (by first | rfl | decide | with_unfolding_all rfl) (fun s₁ IC => ?_) rfl rfl rfl
  obtain ⟨h₁, tk₁, rfl⟩ := IC.toInCall.same
  have k : ∀ b o, s.heap.get? b = some o → h₁.get? b = some o := IC.toInCall.keep
  have hn := IC.toInCall.ns
  have X₁ : K.In h₁ := X.keeps k
  have hx₁ := k _ _ hx
  show wpAny _ _ (execs _ _) _ _ _
  refine wpAny_execs_cons (plainObj_wpAny_Assign_Attribute ?_)
  refine ldC (v := v) hn (by first | rfl | with_unfolding_all rfl | kernel_rfl) (ldC (v := .ref x) hn (by first | rfl | with_unfolding_all rfl | kernel_rfl) ?_)
  refine set_plain X₁ (ox := excO C t0) (od := none) ⟨hx₁, rfl, rfl, trivial⟩ Z.sa ?_
  refine x_osa Z X₁ hx₁ ht (fun h₃ tk₃ dx k₃ dn dne hx₃ hn₃ => ?_)
  show wpAny _ _ (execs _ _) _ _ _
  have z : s.heap.objs.size < h₁.objs.size := hn.lt
  exact wpAny_execs_nil (hq h₃ tk₃ dx ⟨fun b o hb e => k₃ b o hb (k b o e), hx₃, Nat.le_of_lt (Nat.lt_of_lt_of_le z dn), dne, hn₃⟩)
theorem x_init_most (Z : XC K C fI T bmB B newId initId bmN) {p1 p2 q1 q2 q3 q4 : Pos} (ho : K.lookup fI = some ⟨oc, od, .func (fnOf "__init__" qual (iA "most" p1 p2) (iB "most" q1 q2 q3 q4) (iS "most") .none .none doc pm an cdv ct), osl⟩) (hcd : codeIn K cdv qual = true) (ht : takerIn K C "most" = some none)
    {x t0 : Addr} {v : Value} (X : K.In s.heap) (hlim : s.heap.NoLimit) (hx : s.heap.get? x = some (excO C t0)) (hroom : A.depth < recursionLimit)
    (hq : ∀ h' tk dx, InitEnd s.heap h' x C dx t0 (fun y => if y = "most" then some v else none) → R (.ok (.ret .none)) { s with heap := h', toks := tk }) :
    codeAny (model prog w) A (.call (.ref fI) ⟨[.ref x, v], []⟩) R s := by
  refine Att.call_fn (binds := [("self", .ref x), ("most", v)]) X hlim ho hcd hroom (BindsTo.of_eq (by first | rfl | with_unfolding_all rfl)) (by first | rfl | decide | with_unfolding_all rfl) (fun s₁ IC => ?_) rfl rfl rfl
  obtain ⟨h₁, tk₁, rfl⟩ := IC.toInCall.same
  have k : ∀ b o, s.heap.get? b = some o → h₁.get? b = some o := IC.toInCall.keep
  have hn := IC.toInCall.ns
  have X₁ : K.In h₁ := X.keeps k
  have hx₁ := k _ _ hx
  show wpAny _ _ (execs _ _) _ _ _
  refine wpAny_execs_cons (plainObj_wpAny_Assign_Attribute ?_)
  refine ldC (v := v) hn (by first | rfl | with_unfolding_all rfl | kernel_rfl) (ldC (v := .ref x) hn (by first | rfl | with_unfolding_all rfl | kernel_rfl) ?_)
  refine set_plain X₁ (ox := excO C t0) (od := none) ⟨hx₁, rfl, rfl, trivial⟩ Z.sa ?_
  refine x_osa Z X₁ hx₁ ht (fun h₃ tk₃ dx k₃ dn dne hx₃ hn₃ => ?_)
  show wpAny _ _ (execs _ _) _ _ _
  have z : s.heap.objs.size < h₁.objs.size := hn.lt
  exact wpAny_execs_nil (hq h₃ tk₃ dx ⟨fun b o hb e => k₃ b o hb (k b o e), hx₃, Nat.le_of_lt (Nat.lt_of_lt_of_le z dn), dne, hn₃⟩)
theorem x_init_many (Z : XC K C fI T bmB B newId initId bmN) {p1 p2 q1 q2 q3 q4 : Pos} (ho : K.lookup fI = some ⟨oc, od, .func (fnOf "__init__" qual (iA "many" p1 p2) (iB "many" q1 q2 q3 q4) (iS "many") .none .none doc pm an cdv ct), osl⟩) (hcd : codeIn K cdv qual = true) (ht : takerIn K C "many" = some none)
    {x t0 : Addr} {v : Value} (X : K.In s.heap) (hlim : s.heap.NoLimit) (hx : s.heap.get? x = some (excO C t0)) (hroom : A.depth < recursionLimit)
    (hq : ∀ h' tk dx, InitEnd s.heap h' x C dx t0 (fun y => if y = "many" then some v else none) → R (.ok (.ret .none)) { s with heap := h', toks := tk }) :
    codeAny (model prog w) A (.call (.ref fI) ⟨[.ref x, v], []⟩) R s := by
  refine Att.call_fn (binds := [("self", .ref x), ("many", v)]) X hlim ho hcd hroom (BindsTo.of_eq (by first | rfl | with_unfolding_all rfl)) (by first | rfl | decide | with_unfolding_all rfl) (fun s₁ IC => ?_) rfl rfl rfl
  obtain ⟨h₁, tk₁, rfl⟩ := IC.toInCall.same
  have k : ∀ b o, s.heap.get? b = some o → h₁.get? b = some o := IC.toInCall.keep
  have hn := IC.toInCall.ns
  have X₁ : K.In h₁ := X.keeps k
  have hx₁ := k _ _ hx
  show wpAny _ _ (execs _ _) _ _ _
  refine wpAny_execs_cons (plainObj_wpAny_Assign_Attribute ?_)
  refine ldC (v := v) hn (by first | rfl | with_unfolding_all rfl | kernel_rfl) (ldC (v := .ref x) hn (by first | rfl | with_unfolding_all rfl | kernel_rfl) ?_)
  refine set_plain X₁ (ox := excO C t0) (od := none) ⟨hx₁, rfl, rfl, trivial⟩ Z.sa ?_
  refine x_osa Z X₁ hx₁ ht (fun h₃ tk₃ dx k₃ dn dne hx₃ hn₃ => ?_)
  show wpAny _ _ (execs _ _) _ _ _
  have z : s.heap.objs.size < h₁.objs.size := hn.lt
  exact wpAny_execs_nil (hq h₃ tk₃ dx ⟨fun b o hb e => k₃ b o hb (k b o e), hx₃, Nat.le_of_lt (Nat.lt_of_lt_of_le z dn), dne, hn₃⟩)
theorem x_init_text (Z : XC K C fI T bmB B newId initId bmN) {p1 p2 p3 q1 q2 q3 q4 r1 r2 r3 r4 : Pos} (ho : K.lookup fI = some ⟨oc, od, .func (fnOf "__init__" qual (iA2 "line" "word" p1 p2 p3) (iB2 "line" "word" q1 q2 q3 q4 r1 r2 r3 r4) (iS2 "line" "word") .none .none doc pm an cdv ct), osl⟩) (hcd : codeIn K cdv qual = true) (ht : takerIn K C "line" = some none) (ht2 : takerIn K C "word" = some none)
    {x t0 : Addr} {v v2 : Value} (X : K.In s.heap) (hlim : s.heap.NoLimit) (hx : s.heap.get? x = some (excO C t0)) (hroom : A.depth < recursionLimit) (hKx : K.lookup x = none)
    (hq : ∀ h' tk dx, InitEnd s.heap h' x C dx t0 (fun y => if y = "word" then some v2 else if y = "line" then some v else none) → R (.ok (.ret .none)) { s with heap := h', toks := tk }) :
    codeAny (model prog w) A (.call (.ref fI) ⟨[.ref x, v, v2], []⟩) R s := by
  refine Att.call_fn (binds := [("self", .ref x), ("line", v), ("word", v2)]) X hlim ho hcd hroom (BindsTo.of_eq (by first | rfl | with_unfolding_all rfl)) (by first | rfl | decide | with_unfolding_all rfl) (fun s₁ IC => ?_) rfl rfl rfl
  obtain ⟨h₁, tk₁, rfl⟩ := IC.toInCall.same
  have k : ∀ b o, s.heap.get? b = some o → h₁.get? b = some o := IC.toInCall.keep
  have hn := IC.toInCall.ns
  have X₁ : K.In h₁ := X.keeps k
  have hx₁ := k _ _ hx
  show wpAny _ _ (execs _ _) _ _ _
  refine wpAny_execs_cons (plainObj_wpAny_Assign_Attribute ?_)
  refine ldC (v := v) hn (by first | rfl | with_unfolding_all rfl | kernel_rfl) (ldC (v := .ref x) hn (by first | rfl | with_unfolding_all rfl | kernel_rfl) ?_)
  refine set_plain X₁ (ox := excO C t0) (od := none) ⟨hx₁, rfl, rfl, trivial⟩ Z.sa ?_
  refine x_osa Z X₁ hx₁ ht (fun h₃ tk₃ dx k₃ dn dne hx₃ hn₃ => ?_)
  have z : s.heap.objs.size < h₁.objs.size := hn.lt
  have hxL : s.heap.objs.size ≠ x := Nat.ne_of_gt (Heap.lt_size hx)
  have hnn := hn.at (fun o q => k₃ _ o hxL q)
  have X₃ : K.In h₃ := fun b o e => k₃ b o (fun z => by rw [z, hKx] at e; cases e) (X₁ b o e)
  show wpAny _ _ (execs _ _) _ _ _
  refine wpAny_execs_cons (plainObj_wpAny_Assign_Attribute ?_)
  refine ldC (v := v2) hnn (by first | rfl | with_unfolding_all rfl | kernel_rfl) (ldC (v := .ref x) hnn (by first | rfl | with_unfolding_all rfl | kernel_rfl) ?_)
  obtain ⟨oD, esD, epD, hoD, hdD, _⟩ := hn₃.count (Within.cons "line" v Within.nil)
  refine set_plain X₃ (ox := { cls := .ref C, dict := some dx, data := .fields #[.ref t0, .none, .none, .none, .bool false, .none] }) (od := some oD) ⟨hx₃, rfl, rfl, hoD⟩ Z.sa ?_
  refine x_osa_old Z X₃ hx₃ hn₃ (Within.cons "line" v Within.nil) (by decide) ht2 (fun h₄ tk₄ k₄ hn₄ => ?_)
  show wpAny _ _ (execs _ _) _ _ _
  refine wpAny_execs_nil (hq h₄ tk₄ dx ⟨fun b o hb e => ?_, k₄ _ _ (Ne.symm dne) hx₃, Nat.le_of_lt (Nat.lt_of_lt_of_le z dn), dne, hn₄⟩)
  have e1 := k b o e
  exact k₄ b o (Nat.ne_of_lt (Nat.lt_of_lt_of_le (Heap.lt_size e1) dn)) (k₃ b o hb e1)
/-- C(v, ..) by its own __init__ -/
theorem x_made (Z : XC K C fI T bmB B newId initId bmN) {vs : List Value} {mA : Str → Option Value} (X : K.In s.heap) (hlim : s.heap.NoLimit) (hroom : A.depth + 1 < recursionLimit) (hvs : vs.length ≤ sizeLine)
    (hi : ∀ {A : Around} {R : Result → Shared → Prop} {s : Shared} {x t0 : Addr}, K.In s.heap → s.heap.NoLimit → s.heap.get? x = some (excO C t0) → A.depth < recursionLimit → K.lookup x = none → (∀ h' tk dx, InitEnd s.heap h' x C dx t0 mA → R (.ok (.ret .none)) { s with heap := h', toks := tk }) → codeAny (model prog w) A (.call (.ref fI) ⟨.ref x :: vs, []⟩) R s)
    (hq : ∀ h' tk e d, Made s.heap h' e C d mA → R (.ok (.ret (.ref e))) { s with heap := h', toks := tk }) :
    codeAny (model prog w) A (.call (.ref C) ⟨vs, []⟩) R s := by
  obtain ⟨nm, N, qn, bs, bm, hdct, sn, sub, ab, col, dd, k0, k1, k2, k3, k5, hC, hT⟩ := excInit_of X Z.q
  obtain ⟨hp, g, dr, tk, os⟩ := s
  have k : ∀ b o, hp.get? b = some o → ((hp.push (kdv_tup vs)).push (excO C hp.objs.size)).get? b = some o := fun b o e => Heap.get?_push_of_some _ (Heap.get?_push_of_some _ e)
  have hget : ((hp.push (kdv_tup vs)).push (excO C hp.objs.size)).get? (hp.objs.size + 1) = some (excO C hp.objs.size) := by heap_get
  have hnx : K.lookup (hp.objs.size + 1) = none := by
    cases e : K.lookup (hp.objs.size + 1) with
    | none => rfl
    | some o =>
      have z : hp.get? (hp.objs.size + 1) = some o := X _ _ e
      exact absurd (Nat.lt_of_succ_lt (Heap.lt_size z)) (Nat.lt_irrefl _)
  refine x_call_own Z.fb (by rw [hT]; exact Z.nB) (by rw [hT]; exact Z.nA) (by rw [hT]; exact Z.nN) hC (looks_findIn X Z.iC) (fun self => bind_fn X self Z.tI) hvs ?_
  refine hi (s := ⟨(hp.push (kdv_tup vs)).push (excO C hp.objs.size), g, dr, tk, os⟩) (X.keeps k) (hlim.keeps k) hget ?_ hnx fun h' tk' dx ⟨k', hx, dn, dne, hns⟩ => ?_
  · show A.depth + 1 < recursionLimit
    exact hroom
  · have old : ∀ b o, hp.get? b = some o → h'.get? b = some o := fun b o e => k' b o (Nat.ne_of_lt (Nat.lt_succ_of_lt (Heap.lt_size e))) (k b o e)
    have z : hp.objs.size + 1 + 1 ≤ dx := by
      first
        | (simpa only [Heap.size_push] using dn)
        | exact dn
        | (have q := dn; rw [Heap.size_push, Heap.size_push] at q; exact q)
    exact ⟨rfl, hq h' tk' (hp.objs.size + 1) dx ⟨old, Nat.le_succ _, ⟨_, hx⟩, Nat.le_trans (Nat.le_trans (Nat.le_succ _) (Nat.le_succ _)) z, dne, hns⟩⟩
end
end RsX
end PySem

set_option Elab.async false
set_option linter.all false
set_option maxRecDepth 100000
set_option maxHeartbeats 4000000
/-! Own exceptions, by data. -/
namespace RS
open PySem PySem.Spec PyProof.Rows L2 PySem.RsX
/-- what a class says of its instances' reading -/
structure XA (K : PySem.W.Frag) (C : Addr) : Prop where
  cl : (PySem.W.clsIn K C).isSome = true
  ga : PySem.W.findIn K (.ref C) "__getattribute__" = some (some (.builtin "BaseException.__getattribute__"))
  gg : PySem.W.findIn K (.ref C) "__getattr__" = some none
  ex : PySem.W.subIn K (.ref C) (.type "BaseException") = some true
  hd : PySem.W.hasDictIn K C = true
  ca : PySem.W.findIn K (.ref C) "__class__" = some (some (.builtin "object.__class__"))
  cn : PySem.W.specialIn K (.builtin "object.__class__") "__get__" = some (some (.builtin "getset_descriptor.__get__"))
  ct : PySem.W.takesIn K (.builtin "object.__class__") = some true
  cm : PySem.W.mroIn K C (.type "object") = some true
/-- at a an exception of the class at C -/
def XAt (H : Hp) (a C : Addr) (fs : List (Str × V)) : Prop := ∃ d, H a = some (exo a C (some d)) ∧ H d = some (exd d fs)
theorem XAt.same {H H' : Hp} {a C : Addr} {fs : List (Str × V)} (h : XAt H a C fs) (s : Same H H') : XAt H' a C fs := by
  obtain ⟨d, h1, h2⟩ := h
  exact ⟨d, s _ _ h1, s _ _ h2⟩
def FDp (K : PySem.W.Frag) (H : Hp) (fs : List (Str × V)) (fds : List (Str × PyData)) : Prop := ∀ f D, (f, D) ∈ fds → ∃ v, fs.lookup f = some v ∧ Dp K H v D
theorem FDp.same {K : PySem.W.Frag} {H H' : Hp} {fs : List (Str × V)} {fds : List (Str × PyData)} (h : FDp K H fs fds) (s : Same H H') : FDp K H' fs fds := fun f D m => by
  obtain ⟨v, h1, h2⟩ := h f D m
  exact ⟨v, h1, dp_same s _ _ h2⟩
/-- the __init__ of the class keeps its promise -/
def ISpec (P : Program) (w : World) (K : PySem.W.Frag) (C fI : Addr) (us : List Value) (mA : Str → Option Value) : Prop :=
  ∀ {A : Around} {R : Result → Shared → Prop} {s : Shared} {x t0 : Addr}, K.In s.heap → s.heap.NoLimit → s.heap.get? x = some (PySem.HandSPX.excO C t0) → A.depth < recursionLimit → K.lookup x = none →
    (∀ h' tk dx, InitEnd s.heap h' x C dx t0 mA → R (.ok (.ret .none)) { s with heap := h', toks := tk }) → codeAny (model P w) A (.call (.ref fI) ⟨.ref x :: us, []⟩) R s
/-- an own class that stands by its name x, its instances' fields told by mk -/
structure XK1 (P : Program) (w : World) (K : PySem.W.Frag) (mg : Str → Option Value) (x : Str) (C : Addr) (n : Nat) (mk : List V → List (Str × V)) : Prop where
  gC : mg x = some (.ref C)
  kC : PySem.W.keepIn K (.ref C) = true
  made : ∃ (fI : Addr) (T : String) (bmB : List Value) (B newId initId : String) (bmN : List Value), XC K C fI T bmB B newId initId bmN ∧
    ∀ us : List Value, us.length = n → ∃ mA : Str → Option Value, ISpec P w K C fI us mA ∧ ∀ vs, Vals vs us → ∀ f, RelO ((mk vs).lookup f) (mA f)
def tMkX (C : Addr) (n : Nat) (mk : List V → List (Str × V)) (ta : TA) : TE := fun σ H Q => ta σ H fun vs H1 => vs.length = n ∧ ∀ e d, H1 e = none → H1 d = none → d ≠ e → Q (.ref e) (upd (upd H1 d (exd d (mk vs))) e (exo e C (some d)))
section
variable {X : Cx}
theorem mkx_core {pins : List (Addr × Obj)} {σ : L2.St} {H1 : Hp} {hp h' : Heap} {g : Array GenState} {dr : Drawn} {tk tk' : Nat} {os : OsState} {e C d : Addr} {mA : Str → Option Value} {fs : List (Str × V)} (I1 : Inv X pins σ H1 ⟨hp, g, dr, tk, os⟩) (M : Made hp h' e C d mA) (r : ∀ f, RelO (fs.lookup f) (mA f)) :
    Inv X pins σ (upd (upd H1 d (exd d fs)) e (exo e C (some d))) ⟨h', g, dr, tk', os⟩ := by
  obtain ⟨t1, hoe⟩ := M.obj
  have hns := M.ns
  obtain ⟨G', g1, g2⟩ := restrict h' fun b => decide (b ≠ e)
  have gk : ∀ b, b ≠ e → G'.get? b = h'.get? b := fun b hb => g1 b (decide_eq_true hb)
  have ge : G'.get? e = none := g2 e (by simp)
  have old : ∀ b o, hp.get? b = some o → G'.get? b = some o := fun b o q => (gk b (Nat.ne_of_lt (Nat.lt_of_lt_of_le (Heap.lt_size q) M.new))).trans (M.keep b o q)
  have ob : ObjOk X.prog X.w (upd H1 d (exd d fs)) G' d (exd d fs) := exd_ok (hns.at (fun o q => (gk d M.dne).trans q)) r
  have J : Inv X pins σ (upd H1 d (exd d fs)) ⟨G', g, dr, tk', os⟩ := I1.laid (t' := tk') old M.dbig ob
  have he : (upd H1 d (exd d fs)) e = none := by rw [upd_ne (Ne.symm M.dne)]; exact I1.hok.fresh M.new
  exact J.laidN (t' := tk') (h' := h') (fun b o q => by
    by_cases hb : b = e
    · have q' : G'.get? b = some o := q
      rw [hb, ge] at q'; cases q'
    · exact (gk b hb).symm.trans q) ge he (exo_ok hoe)
theorem pe_mkx {x : Str} {C : Addr} {n k : Nat} {mk : List V → List (Str × V)} {a : Expr} {as : List Expr} {ta : TA} {p pos : Pos} (Z : XK1 X.prog X.w X.K X.mg x C n mk) (hr : Room k X.A) (ha : PA X (a :: as) ta) (hn : n ≤ 1000) (hg : Gl X x) (hdb : (x == ("__debug__" : Str)) = false := by decide)
    (he : starEach (a :: as) X.env = (false, eval a X.env) :: starEach as X.env := by rfl) (hpl : (backTo pos (starEach as X.env)).any (·.1) = false := by rfl) :
    PE X (.Call (.Name x p) (a :: as) [] pos) (tMkX C n mk ta) := by
  refine ⟨fun pins s σ H Q I h => ?_⟩
  refine wpAny_Call_Name_kw (ld_glob I hg Z.gC ?_ hdb)
  refine PySem.W.callWith_K (h₀ := X.base) I.ok.mod.kin Z.kC (thn (ha.run pos pins s σ H _ I h) fun us s1 hh => ?_) he hpl
  obtain ⟨vs, H1, I1, r1, hl, q1⟩ := hh
  refine ⟨I1.kIn, ?_⟩
  show wpAny _ _ (call (.ref C) us) _ _ _
  have hlu : us.length = n := by rw [← Paired.length r1]; exact hl
  obtain ⟨fI, T, bmB, B, newId, initId, bmN, Zc, hI⟩ := Z.made
  obtain ⟨mA, hi, hrel⟩ := hI us hlu
  have hlim := I1.nolimit
  obtain ⟨hp, g, dr, tk, os⟩ := s1
  refine wpAny_call (x_made Zc I1.kIn hlim (by have := hr.dp; omega) (by rw [hlu]; exact Nat.le_trans hn (by decide)) hi fun h' tk' e d M => ?_)
  refine ⟨.ref e, _, mkx_core (tk' := tk') I1 M (hrel vs r1), rfl, ?_⟩
  exact q1 e d (I1.hok.fresh M.new) (I1.hok.fresh M.dbig) M.dne
/-- e.f -/
def tXg (K : PySem.W.Frag) (f : Str) (te : TE) : TE := fun σ H Q => te σ H fun x H1 => ∃ (a C : Addr) (fs : List (Str × V)) (v : V), x = .ref a ∧ XA K C ∧ PySem.W.findIn K (.ref C) f = some none ∧ XAt H1 a C fs ∧ fs.lookup f = some v ∧ Q v H1
theorem pe_xg {e : Expr} {te : TE} {pos : Pos} {n : Str} (he : PE X e te) (hb : attributeBase e n X.env (eval e X.env) = eval e X.env := by rfl) : PE X (.Attribute e n pos) (tXg X.K n te) := by
  refine ⟨fun pins s σ H Q I h => ?_⟩
  refine attr_of hb (thn (he.run pins s σ H _ I h) fun u s1 hh => ?_)
  obtain ⟨x, H1, I1, rx, a, C, fs, v, ex, T, hno, ⟨d, h1, h2⟩, l, q⟩ := hh
  subst ex
  obtain rfl : u = Value.ref a := rx
  obtain ⟨t1, ho⟩ := exo_at I1.hok h1
  obtain ⟨mA, hns, hr⟩ := exd_at I1.hok h2
  obtain ⟨od, hod, hl⟩ := lookIn_ns hns
  obtain ⟨u, hu, ru⟩ := RelO.some_of (v := v) (o := mA n) (by rw [← l]; exact hr n)
  have J : PySem.W.InstAt s1.heap a _ C (some od) := ⟨ho, rfl, rfl, hod⟩
  exact HandSPX.exc_get I1.kIn J T.ga T.gg T.ex (PySem.W.findObj_own T.hd hno rfl (by rw [hl, hu])) (handed_of ru) ⟨v, H1, I1.tok _, ru, q⟩
/-- isinstance(e, T) -/
def rIsX (K : PySem.W.Frag) : List V → Hp → VK → Prop := fun xs H Q => ∃ (a C : Addr) (fs : List (Str × V)) (c : V) (cv : Value) (b : Bool), xs = [.ref a, c] ∧ XA K C ∧ (XAt H a C fs ∨ H a = some (ExO (.ref C) a)) ∧ ClsV c cv ∧ PySem.W.kitOne K (.ref C) cv = some b ∧ Q (.bl b) H
theorem call_isX : CallR X (.builtin "isinstance") (rIsX X.K) := by
  intro pins s σ H xs us Q I r h
  obtain ⟨a, C, fs, c, cv, b, rfl, T, hx, hcv, e, q⟩ := h
  obtain ⟨u1, u2, rfl, r1, r2⟩ := vals2 r
  have e2 := hcv.eq r2
  subst e2
  cases (show u1 = Value.ref a from r1)
  rcases hx with ⟨d, h1, h2⟩ | h1
  · obtain ⟨t1, ho⟩ := exo_at I.hok h1
    obtain ⟨mA, hns, hr⟩ := exd_at I.hok h2
    obtain ⟨od, hod, hl⟩ := lookIn_ns hns
    have J : PySem.W.InstAt s.heap a _ C (some od) := ⟨ho, rfl, rfl, hod⟩
    exact PySem.W.kia_one (PySem.W.kitx_exc T.cl T.ga T.gg T.ex T.ca T.cn T.ct T.cm) I.kIn J e (fun z => nomatch z) fun tk => ⟨.bl b, H, I.kept (t' := tk) fun _ _ z => z, rfl, q⟩
  · have hx : ObjOk X.prog X.w H s.heap a (.ext fun h => ∃ (oe : Obj) (vs : Array Value), h.get? a = some oe ∧ Zc (.ref C) none oe ∧ oe.data = .fields vs ∧ vs[1]? = some .none ∧ vs[2]? = some .none ∧ 4 < vs.size) := I.hok a _ h1
    obtain ⟨oe, vs, ho, ⟨z1, z2⟩, z3, _⟩ := hx.1
    have J : PySem.W.InstAt s.heap a oe C none := by
      obtain ⟨oc, od, oda, osl⟩ := oe
      dsimp only at z1 z2 z3
      subst z1 z2 z3
      exact ⟨ho, rfl, rfl, trivial⟩
    exact PySem.W.kia_one (PySem.W.kitx_exc T.cl T.ga T.gg T.ex T.ca T.cn T.ct T.cm) I.kIn J e (fun z => nomatch z) fun tk => ⟨.bl b, H, I.kept (t' := tk) fun _ _ z => z, rfl, q⟩
end
/-! ### by data -/
def ER (X : Cx) (H0 : Hp) (δ : List Sl) (e : Expr) (C : Addr) (fds : List (Str × PyData)) : Prop := ∀ σ H, EnvD X.K H0 H σ δ → ∀ Q : VK, (∀ a fs H', Same H H' → XAt H' a C fs → FDp X.K H' fs fds → Q (.ref a) H') → cE X e σ H Q
section
variable {X : Cx} {H0 H : Hp} {σ : L2.St} {δ : List Sl} {x f f2 : Str} {C : Addr} {k : Nat} {e e2 : Expr} {d d2 : PyData} {p pos : Pos}
theorem ER.go {fds : List (Str × PyData)} {Q : VK} (E : EnvD X.K H0 H σ δ) (h : ER X H0 δ e C fds) (q : ∀ a fs H', Same H H' → XAt H' a C fs → FDp X.K H' fs fds → Q (.ref a) H') : cE X e σ H Q := h σ H E Q q
theorem er_1 (Z : XK1 X.prog X.w X.K X.mg x C 1 fun vs => [(f, vs.headD .non)]) (hr : Room k X.A) (h : EV X H0 δ e d) (hg : Gl X x := by rfl) (hdb : (x == ("__debug__" : Str)) = false := by decide) (he : starEach [e] X.env = (false, eval e X.env) :: starEach [] X.env := by rfl) :
    ER X H0 δ (.Call (.Name x p) [e] [] pos) C [(f, d)] := fun σ H E Q q =>
  e_of (pe_mkx Z hr (pa_cons c_e pa_nil he) (by decide) hg hdb he rfl) (h σ H E _ fun v H1 s1 h1 => ⟨rfl, fun e0 d0 he hd hne => by
    have s2 : Same H1 (upd (upd H1 d0 (exd d0 [(f, v)])) e0 (exo e0 C (some d0))) := (Same.new hd).trans (Same.new (by rw [upd_ne (Ne.symm hne)]; exact he))
    refine q e0 [(f, v)] _ (s1.trans s2) ⟨d0, upd_same, by rw [upd_ne hne]; exact upd_same⟩ fun g D m => ?_
    rw [List.mem_singleton] at m
    cases m
    exact ⟨v, by simp [List.lookup], dp_same s2 _ _ h1⟩⟩)
theorem er_2 (Z : XK1 X.prog X.w X.K X.mg x C 2 fun vs => [(f2, vs.getD 1 .non), (f, vs.headD .non)]) (hr : Room k X.A) (hf : f ≠ f2) (h : EV X H0 δ e d) (h2 : EV X H0 δ e2 d2) (hg : Gl X x := by rfl) (hdb : (x == ("__debug__" : Str)) = false := by decide)
    (he : starEach [e, e2] X.env = (false, eval e X.env) :: starEach [e2] X.env := by rfl) (he2 : starEach [e2] X.env = (false, eval e2 X.env) :: starEach [] X.env := by rfl) (hpl : (backTo pos (starEach [e2] X.env)).any (·.1) = false := by rfl) :
    ER X H0 δ (.Call (.Name x p) [e, e2] [] pos) C [(f, d), (f2, d2)] := fun σ H E Q q =>
  e_of (pe_mkx Z hr (pa_cons c_e (pa_cons c_e pa_nil he2) he) (by decide) hg hdb he hpl) (h σ H E _ fun v H1 s1 h1 => h2 σ H1 (E.mono s1) _ fun v2 H2 s2 h3 => ⟨rfl, fun e0 d0 he hd hne => by
    have s3 : Same H2 (upd (upd H2 d0 (exd d0 [(f2, v2), (f, v)])) e0 (exo e0 C (some d0))) := (Same.new hd).trans (Same.new (by rw [upd_ne (Ne.symm hne)]; exact he))
    refine q e0 [(f2, v2), (f, v)] _ ((s1.trans s2).trans s3) ⟨d0, upd_same, by rw [upd_ne hne]; exact upd_same⟩ fun g D m => ?_
    rcases List.mem_cons.mp m with m | m
    · cases m
      have : (f == f2) = false := by simpa using hf
      exact ⟨v, by simp [List.lookup, this], dp_same (s2.trans s3) _ _ h1⟩
    · rw [List.mem_singleton] at m
      cases m
      exact ⟨v2, by simp [List.lookup], dp_same s3 _ _ h3⟩⟩)
theorem ev_fldE {fds : List (Str × PyData)} (h : ER X H0 δ e C fds) (T : XA X.K C) (hno : PySem.W.findIn X.K (.ref C) f = some none) (hm : (f, d) ∈ fds) (hb : attributeBase e f X.env (eval e X.env) = eval e X.env := by rfl) : EV X H0 δ (.Attribute e f pos) d := fun σ H E Q q =>
  e_of (pe_xg c_e hb) (h σ H E _ fun a fs H' s hx hf => by
    obtain ⟨v, h1, h2⟩ := hf f d hm
    exact ⟨a, C, fs, v, rfl, T, hno, hx, h1, q v H' s h2⟩)
theorem ev_fld (i : Nat) {a : Addr} {fs : List (Str × V)} {fds : List (Str × PyData)} {px : Pos} (h : δ[i]? = some (.raw (.ref a))) (hx : XAt H0 a C fs) (hf : FDp X.K H0 fs fds) (T : XA X.K C) (hno : PySem.W.findIn X.K (.ref C) f = some none) (hm : (f, d) ∈ fds)
    (hN : X.N[i]? = some x := by rfl) (hv : Vis X.env.scope x := by first | exact Or.inl rfl | exact Or.inr (Or.inl rfl) | exact Or.inr (Or.inr rfl)) (hdb : (x == ("__debug__" : Str)) = false := by decide) (hcd : (x == ("__classdict__" : Str)) = false := by decide)
    (hb : attributeBase (.Name x px) f X.env (eval (.Name x px) X.env) = eval (.Name x px) X.env := by rfl) : EV X H0 δ (.Attribute (.Name x px) f pos) d := fun σ H E Q q =>
  e_of (pe_xg (pv i hN hv hdb hcd) hb) (by
    obtain ⟨v, h1, h2⟩ := hf f d hm
    exact ⟨_, E.getRaw h, a, C, fs, v, rfl, T, hno, hx.same E.ex, h1, q v H (Same.refl H) (dp_same E.ex _ _ h2)⟩)
/-- isinstance(x, D), D a class of the module -/
theorem ev_isO (i : Nat) {a D : Addr} {fs : List (Str × V)} {b : Bool} {y : Str} {px p2 : Pos} (hmi : X.mg "isinstance" = none) (hmy : X.mg y = some (.ref D)) (h : δ[i]? = some (.raw (.ref a))) (hx : XAt H0 a C fs) (T : XA X.K C) (hk : PySem.W.kitOne X.K (.ref C) (.ref D) = some b)
    (hN : X.N[i]? = some x := by rfl) (hv : Vis X.env.scope x := by first | exact Or.inl rfl | exact Or.inr (Or.inl rfl) | exact Or.inr (Or.inr rfl)) (hdb : (x == ("__debug__" : Str)) = false := by decide) (hcd : (x == ("__classdict__" : Str)) = false := by decide)
    (hg : Gl X "isinstance" := by rfl) (hgy : Gl X y := by rfl) (hdy : (y == ("__debug__" : Str)) = false := by decide)
    (h1 : starEach [.Name x px, .Name y p2] X.env = (false, eval (.Name x px) X.env) :: starEach [.Name y p2] X.env := by rfl) (h2 : starEach [.Name y p2] X.env = (false, eval (.Name y p2) X.env) :: starEach [] X.env := by rfl) (h3 : (backTo pos (starEach [.Name y p2] X.env)).any (·.1) = false := by rfl) :
    EV X H0 δ (.Call (.Name "isinstance" p) [.Name x px, .Name y p2] [] pos) (.bool b) := fun σ H E Q q =>
  e_of (pe_callB call_isX hg hmi hv_isi (pa_cons (pv i hN hv hdb hcd) (pa_cons (pe_glob (v := .ref D) hgy hmy rfl hdy) pa_nil h2) h1) (he := h1) (hpl := h3)) ⟨_, E.getRaw h, a, C, fs, .ref D, .ref D, b, rfl, T, .inl (hx.same E.ex), .own D, hk, q _ H (Same.refl H) (.bl b)⟩
/-- isinstance(x, T), T a built-in class -/
theorem ev_isT (i : Nat) {a : Addr} {fs : List (Str × V)} {b : Bool} {y : Str} {n : String} {px p2 : Pos} (hmi : X.mg "isinstance" = none) (hmy : X.mg y = none) (hvy : bootBuiltins y = some (.type n)) (h : δ[i]? = some (.raw (.ref a))) (hx : XAt H0 a C fs) (T : XA X.K C) (hk : PySem.W.kitOne X.K (.ref C) (.type n) = some b)
    (hN : X.N[i]? = some x := by rfl) (hv : Vis X.env.scope x := by first | exact Or.inl rfl | exact Or.inr (Or.inl rfl) | exact Or.inr (Or.inr rfl)) (hdb : (x == ("__debug__" : Str)) = false := by decide) (hcd : (x == ("__classdict__" : Str)) = false := by decide)
    (hg : Gl X "isinstance" := by rfl) (hgy : Gl X y := by rfl) (hny : y ≠ "__name__" := by decide) (hdy : (y == ("__debug__" : Str)) = false := by decide)
    (h1 : starEach [.Name x px, .Name y p2] X.env = (false, eval (.Name x px) X.env) :: starEach [.Name y p2] X.env := by rfl) (h2 : starEach [.Name y p2] X.env = (false, eval (.Name y p2) X.env) :: starEach [] X.env := by rfl) (h3 : (backTo pos (starEach [.Name y p2] X.env)).any (·.1) = false := by rfl) :
    EV X H0 δ (.Call (.Name "isinstance" p) [.Name x px, .Name y p2] [] pos) (.bool b) := fun σ H E Q q =>
  e_of (pe_callB call_isX hg hmi hv_isi (pa_cons (pv i hN hv hdb hcd) (pa_cons (pe_bltn (v := .ty n) hgy hmy hvy rfl hny hdy) pa_nil h2) h1) (he := h1) (hpl := h3)) ⟨_, E.getRaw h, a, C, fs, .ty n, .type n, b, rfl, T, .inl (hx.same E.ex), .ty n, hk, q _ H (Same.refl H) (.bl b)⟩
end
end RS

set_option Elab.async false
set_option linter.all false
set_option maxRecDepth 100000
set_option maxHeartbeats 4000000
/-! The law's look at the errors. -/
namespace RS
open PySem PySem.Spec PyProof.Rows L2 PySem.RsX
abbrev veM : List Value := [.type "ValueError", .type "Exception", .type "BaseException", .type "object"]
structure ExF (P : Program) (w : World) (K : PySem.W.Frag) (mg : Str → Option Value) (nl tm mi bt bp ns be br bo re bf bl : Addr) : Prop where
  z_nl : XK1 P w K mg "NothingLeft" nl 1 fun vs => [("many", vs.headD .non)]
  z_tm : XK1 P w K mg "TooMany" tm 1 fun vs => [("most", vs.headD .non)]
  z_mi : XK1 P w K mg "Missing" mi 1 fun vs => [("given", vs.headD .non)]
  z_bt : XK1 P w K mg "BadText" bt 2 fun vs => [("word", vs.getD 1 .non), ("line", vs.headD .non)]
  z_bp : XK1 P w K mg "BadPaper" bp 1 fun vs => [("part", vs.headD .non)]
  z_ns : XK1 P w K mg "NoShare" ns 1 fun vs => [("paper", vs.headD .non)]
  z_be : XK1 P w K mg "BadTerm" be 1 fun vs => [("path", vs.headD .non)]
  z_br : XK1 P w K mg "BadRow" br 1 fun vs => [("given", vs.headD .non)]
  z_bo : XK1 P w K mg "BadPoly" bo 1 fun vs => [("given", vs.headD .non)]
  a_nl : XA K nl
  a_tm : XA K tm
  a_mi : XA K mi
  a_bt : XA K bt
  a_bp : XA K bp
  a_ns : XA K ns
  a_be : XA K be
  a_br : XA K br
  a_bo : XA K bo
  a_re : XA K re
  f_nl : PySem.W.findIn K (.ref nl) "many" = some none
  f_tm : PySem.W.findIn K (.ref tm) "most" = some none
  f_mi : PySem.W.findIn K (.ref mi) "given" = some none
  f_bt : PySem.W.findIn K (.ref bt) "line" = some none
  f_bu : PySem.W.findIn K (.ref bt) "word" = some none
  f_bp : PySem.W.findIn K (.ref bp) "part" = some none
  f_ns : PySem.W.findIn K (.ref ns) "paper" = some none
  f_be : PySem.W.findIn K (.ref be) "path" = some none
  f_br : PySem.W.findIn K (.ref br) "given" = some none
  f_bo : PySem.W.findIn K (.ref bo) "given" = some none
  g_re : mg "RungError" = some (.ref re)
  q_re : PySem.W.excIn K re veM "ValueError.__new__" = true
  k_re : PySem.W.keepIn K (.ref re) = true
  g_bf : mg "BadFraction" = some (.ref bf)
  g_bl : mg "BadLadder" = some (.ref bl)
  k_nl : PySem.W.kitOne K (.ref nl) (.type "RuntimeError") = some true
  k_tm : PySem.W.kitOne K (.ref tm) (.type "OverflowError") = some true
  k_mi : PySem.W.kitOne K (.ref mi) (.type "KeyError") = some true
  r_nl : PySem.W.kitOne K (.ref nl) (.ref re) = some false
  r_tm : PySem.W.kitOne K (.ref tm) (.ref re) = some false
  r_mi : PySem.W.kitOne K (.ref mi) (.ref re) = some false
  r_bp : PySem.W.kitOne K (.ref bp) (.ref re) = some true
  r_ns : PySem.W.kitOne K (.ref ns) (.ref re) = some true
  r_be : PySem.W.kitOne K (.ref be) (.ref re) = some true
  r_br : PySem.W.kitOne K (.ref br) (.ref re) = some true
  r_bt : PySem.W.kitOne K (.ref bt) (.ref re) = some true
  v_bp : PySem.W.kitOne K (.ref bp) (.type "ValueError") = some true
  v_ns : PySem.W.kitOne K (.ref ns) (.type "ValueError") = some true
  v_be : PySem.W.kitOne K (.ref be) (.type "ValueError") = some true
  v_br : PySem.W.kitOne K (.ref br) (.type "ValueError") = some true
  v_bt : PySem.W.kitOne K (.ref bt) (.type "ValueError") = some true
  o_bp : PySem.W.kitOne K (.ref bp) (.ref ns) = some false
  o_ns : PySem.W.kitOne K (.ref ns) (.ref bp) = some false
  o_br : PySem.W.kitOne K (.ref br) (.ref bf) = some false
  v_re : PySem.W.kitOne K (.ref re) (.type "ValueError") = some true
  o_re : PySem.W.kitOne K (.ref re) (.ref bl) = some false
theorem EnvD.setR {K : PySem.W.Frag} {H0 H : Hp} {σ : L2.St} {δ : List Sl} (E : EnvD K H0 H σ δ) (i : Nat) (v : V) : EnvD K H0 H (σ.set i (some v)) (δ.set i (.raw v)) := by
  refine ⟨E.ex, by simp [E.len], fun j s e => ?_, fun j k ds es l e1 e2 e3 e4 => ?_⟩
  · rcases getElem?_set_cases e with ⟨rfl, rfl, hl⟩ | ⟨ne, e⟩
    · show (((σ.set i (some v))[i]?).join) = some v
      rw [List.getElem?_set_self (by rw [E.len]; exact hl)]; rfl
    · rw [set_join ne]; exact E.at_ j s e
  · rcases getElem?_set_cases e1 with ⟨_, q, _⟩ | ⟨ne1, e1⟩
    · cases q
    · rcases getElem?_set_cases e2 with ⟨_, q, _⟩ | ⟨ne2, e2⟩
      · cases q
      · rw [List.getElem?_set_ne ne1] at e3
        rw [List.getElem?_set_ne ne2] at e4
        exact E.dis j k ds es l e1 e2 e3 e4
theorem EnvD.forget {K : PySem.W.Frag} {H0 H : Hp} {σ : L2.St} {δ : List Sl} (E : EnvD K H0 H σ δ) (i : Nat) : EnvD K H0 H σ (δ.set i .non) := by
  refine ⟨E.ex, by simp [E.len], fun j s e => ?_, fun j k ds es l e1 e2 e3 e4 => ?_⟩
  · rcases getElem?_set_cases e with ⟨rfl, rfl, hl⟩ | ⟨ne, e⟩
    · trivial
    · exact E.at_ j s e
  · rcases getElem?_set_cases e1 with ⟨_, q, _⟩ | ⟨ne1, e1⟩
    · cases q
    · rcases getElem?_set_cases e2 with ⟨_, q, _⟩ | ⟨ne2, e2⟩
      · cases q
      · exact E.dis j k ds es l e1 e2 e3 e4
theorem hv_RuntimeError : bootBuiltins "RuntimeError" = some (.type "RuntimeError") := by decide +kernel
theorem hv_OverflowError : bootBuiltins "OverflowError" = some (.type "OverflowError") := by decide +kernel
theorem hv_KeyError : bootBuiltins "KeyError" = some (.type "KeyError") := by decide +kernel
theorem hv_ValueError : bootBuiltins "ValueError" = some (.type "ValueError") := by decide +kernel
section
variable {X : Cx} {H0 : Hp} {δ : List Sl} {p pos : Pos}
/-- isinstance(RungError("a"), T) -/
theorem ev_isR {re : Addr} {z : Str} {c : V} {cv : Value} {e2 : Expr} {b : Bool} {j : Nat} {p1 p2 p3 : Pos} (hmi : X.mg "isinstance" = none) (g : X.mg "RungError" = some (.ref re)) (q : PySem.W.excIn X.K re veM "ValueError.__new__" = true) (kC : PySem.W.keepIn X.K (.ref re) = true) (T : XA X.K re) (hT : PE X e2 (tC c)) (hc : ClsV c cv) (hk : PySem.W.kitOne X.K (.ref re) cv = some b)
    (hg : Gl X "isinstance" := by rfl) (hgr : Gl X "RungError" := by rfl)
    (h1 : starEach [.Call (.Name "RungError" p1) [.Constant (.str z) j p2] [] p3, e2] X.env = (false, eval (.Call (.Name "RungError" p1) [.Constant (.str z) j p2] [] p3) X.env) :: starEach [e2] X.env := by rfl) (h2 : starEach [e2] X.env = (false, eval e2 X.env) :: starEach [] X.env := by rfl) (h3 : (backTo pos (starEach [e2] X.env)).any (·.1) = false := by rfl) :
    EV X H0 δ (.Call (.Name "isinstance" p) [.Call (.Name "RungError" p1) [.Constant (.str z) j p2] [] p3, e2] [] pos) (.bool b) := fun σ H E Q q' =>
  e_of (pe_callB call_isX hg hmi hv_isi (pa_cons (pe_exc1 PySem.F.excBase_ValueError q g kC hgr pe_str) (pa_cons hT pa_nil h2) h1) (he := h1) (hpl := h3)) fun a ha => ⟨a, re, [], c, cv, b, rfl, T, .inr upd_same, hc, hk, q' _ _ (Same.new ha) (.bl b)⟩
end
section
variable {P : Program} {w : World} {K : PySem.W.Frag} {mg : Str → Option Value} {base : Heap} {nl tm mi bt bp ns be br bo re bf bl : Addr}
theorem ok_errors (T : Tx K mg) (Z : ExF P w K mg nl tm mi bt bp ns be br bo re bf bl) : Fn P w K mg base "_law_errors_good" [] 11 spErr :=
  Fn.ofS T.d__law_errors_good sc__law_errors_good bd__law_errors_good (fun _ _ _ _ h => by rw [h.1]; rfl) fun f cdv A outer s H vs Q E hr h => by
    obtain ⟨rfl, q⟩ := h
    have E0 : EnvD K H H (start N__law_errors_good []) (List.replicate 9 .non) := env_non _
    refine cs_cons (s_of (ps_asg (pe_tup (pa_cons c_e (pa_cons c_e (pa_cons c_e (pa_cons c_e pa_nil rfl) rfl) rfl) rfl)) (pg_tup rfl (pgs_cons (pg_name (i := 0) sc__law_errors_good.nd rfl (Or.inl rfl)) (pgs_cons (pg_name (i := 1) sc__law_errors_good.nd rfl (Or.inl rfl)) (pgs_cons (pg_name (i := 2) sc__law_errors_good.nd rfl (Or.inl rfl)) (pgs_cons (pg_name (i := 3) sc__law_errors_good.nd rfl (Or.inl rfl)) pgs_nil))))) rfl rfl rfl) ?_)
    refine ER.go E0 (er_1 Z.z_nl hr (EL.ev (el_lst (ea_cons ev_int ea_nil)))) fun a1 f1 H1 s1 x1 y1 => ?_
    refine ER.go (E0.mono s1) (er_1 Z.z_tm hr ev_non) fun a2 f2 H2 s2 x2 y2 => ?_
    refine ER.go ((E0.mono s1).mono s2) (er_1 Z.z_mi hr (ev_tup (ea_cons ev_int ea_nil))) fun a3 f3 H3 s3 x3 y3 => ?_
    refine ER.go (((E0.mono s1).mono s2).mono s3) (er_2 Z.z_bt hr (by decide) ev_int ev_non) fun a4 f4 H4 s4 x4 y4 => ?_
    refine ⟨by show 4 ≤ sizeLine; decide, fun p hp => ⟨p, _, rfl, SqT.of upd_same, rfl, _, _, rfl, _, _, rfl, _, _, rfl, _, _, rfl, rfl, ?_⟩⟩
    have s5 : Same H4 (upd H4 p (.tup [.ref a1, .ref a2, .ref a3, .ref a4])) := Same.new hp
    show cSs _ _ _ _ _
    generalize upd H4 p (.tup [.ref a1, .ref a2, .ref a3, .ref a4]) = H5 at s5
    replace x1 := (((x1.same s2).same s3).same s4).same s5
    replace y1 := (((y1.same s2).same s3).same s4).same s5
    replace x2 := ((x2.same s3).same s4).same s5
    replace y2 := ((y2.same s3).same s4).same s5
    replace x3 := (x3.same s4).same s5
    replace y3 := (y3.same s4).same s5
    replace x4 := x4.same s5
    replace y4 := y4.same s5
    have S0 : Same H H5 := (((s1.trans s2).trans s3).trans s4).trans s5
    replace E0 := (((((E0.mono S0).rebase (H' := H5) (Tup.refl _) rfl).setR 0 (.ref a1)).setR 1 (.ref a2)).setR 2 (.ref a3)).setR 3 (.ref a4)
    have d1 : SeqAt.shaped (.list [.list [.int 3], .none, .tuple [.int 2], .int 4, .none]) = true := by decide +kernel
    have d2 : PyData.eqv (.list [.list [.int 3], .none, .tuple [.int 2], .int 4, .none]) (.list [.list [.int 3], .none, .tuple [.int 2], .int 4, .none]) = true := by simp [PyData.eqv, PyData.eqvAll]
    refine cs_cons (s_of (ps_if c_t c_ss c_ss) (ET.go E0 (et_cmp (k := false) (EC.is (ec_neD hr.units (d := .list [.list [.int 3], .none, .tuple [.int 2], .int 4, .none]) (d' := .list [.list [.int 3], .none, .tuple [.int 2], .int 4, .none]) ?_ ?_ d1 d1) (by rw [d2]; rfl))) fun H6 s6 => ?_))
    · refine EL.ev (el_lst ?_)
      refine ea_cons ?_ ?_
      · exact ev_fld 0 rfl x1 y1 Z.a_nl Z.f_nl (by simp)
      refine ea_cons ?_ ?_
      · exact ev_fld 1 rfl x2 y2 Z.a_tm Z.f_tm (by simp)
      refine ea_cons ?_ ?_
      · exact ev_fld 2 rfl x3 y3 Z.a_mi Z.f_mi (by simp)
      refine ea_cons ?_ ?_
      · exact ev_fld 3 rfl x4 y4 Z.a_bt Z.f_bt (by simp)
      refine ea_cons ?_ ?_
      · exact ev_fld 3 rfl x4 y4 Z.a_bt Z.f_bu (by simp)
      exact ea_nil
    · refine EL.ev (el_lst ?_)
      refine ea_cons ?_ ?_
      · exact EL.ev (el_lst (ea_cons ev_int ea_nil))
      refine ea_cons ?_ ?_
      · exact ev_non
      refine ea_cons ?_ ?_
      · exact ev_tup (ea_cons ev_int ea_nil)
      refine ea_cons ?_ ?_
      · exact ev_int
      refine ea_cons ?_ ?_
      · exact ev_non
      exact ea_nil
    rw [if_neg Bool.false_ne_true]
    refine ss_of pss_nil ?_
    show cSs _ _ _ _ _
    replace E0 := (E0.mono s6).rebase (H' := H6) (Tup.refl _) rfl
    replace x1 := x1.same s6
    replace x2 := x2.same s6
    replace x3 := x3.same s6
    replace x4 := x4.same s6
    replace S0 := S0.trans s6
    clear s1 s2 s3 s4 s5 s6 y1 y2 y3 y4 d1 d2
    -- the other four
    refine cs_cons (s_of (ps_asg (pe_tup (pa_cons c_e (pa_cons c_e (pa_cons c_e (pa_cons c_e pa_nil rfl) rfl) rfl) rfl)) (pg_tup rfl (pgs_cons (pg_name (i := 4) sc__law_errors_good.nd rfl (Or.inl rfl)) (pgs_cons (pg_name (i := 5) sc__law_errors_good.nd rfl (Or.inl rfl)) (pgs_cons (pg_name (i := 6) sc__law_errors_good.nd rfl (Or.inl rfl)) (pgs_cons (pg_name (i := 7) sc__law_errors_good.nd rfl (Or.inl rfl)) pgs_nil))))) rfl rfl rfl) ?_)
    refine ER.go E0 (er_1 Z.z_bp hr (ev_tup ea_nil)) fun a5 f5 H1 s1 x5 y5 => ?_
    refine ER.go (E0.mono s1) (er_1 Z.z_ns hr ev_str) fun a6 f6 H2 s2 x6 y6 => ?_
    refine ER.go ((E0.mono s1).mono s2) (er_1 Z.z_be hr ev_int) fun a7 f7 H3 s3 x7 y7 => ?_
    refine ER.go (((E0.mono s1).mono s2).mono s3) (er_1 Z.z_br hr ev_non) fun a8 f8 H4 s4 x8 y8 => ?_
    refine ⟨by show 4 ≤ sizeLine; decide, fun p hp => ⟨p, _, rfl, SqT.of upd_same, rfl, _, _, rfl, _, _, rfl, _, _, rfl, _, _, rfl, rfl, ?_⟩⟩
    have s5 : Same H4 (upd H4 p (.tup [.ref a5, .ref a6, .ref a7, .ref a8])) := Same.new hp
    show cSs _ _ _ _ _
    generalize upd H4 p (.tup [.ref a5, .ref a6, .ref a7, .ref a8]) = H5' at s5
    have sA : Same H6 H5' := (((s1.trans s2).trans s3).trans s4).trans s5
    replace x1 := x1.same sA
    replace x2 := x2.same sA
    replace x3 := x3.same sA
    replace x4 := x4.same sA
    replace x5 := (((x5.same s2).same s3).same s4).same s5
    replace y5 := (((y5.same s2).same s3).same s4).same s5
    replace x6 := ((x6.same s3).same s4).same s5
    replace y6 := ((y6.same s3).same s4).same s5
    replace x7 := (x7.same s4).same s5
    replace y7 := (y7.same s4).same s5
    replace x8 := x8.same s5
    replace y8 := y8.same s5
    replace S0 := S0.trans sA
    replace E0 := (((((E0.mono sA).rebase (H' := H5') (Tup.refl _) rfl).setR 4 (.ref a5)).setR 5 (.ref a6)).setR 6 (.ref a7)).setR 7 (.ref a8)
    have d1 : SeqAt.shaped (.list [.tuple [], .str "a", .int 1, .none, .list [.int 1]]) = true := by decide +kernel
    have d2 : PyData.eqv (.list [.tuple [], .str "a", .int 1, .none, .list [.int 1]]) (.list [.tuple [], .str "a", .int 1, .none, .list [.int 1]]) = true := by simp [PyData.eqv, PyData.eqvAll]
    refine cs_cons (s_of (ps_if c_t c_ss c_ss) (ET.go E0 (et_cmp (k := false) (EC.is (ec_neD hr.units (d := .list [.tuple [], .str "a", .int 1, .none, .list [.int 1]]) (d' := .list [.tuple [], .str "a", .int 1, .none, .list [.int 1]]) ?_ ?_ d1 d1) (by rw [d2]; rfl))) fun H7 s7 => ?_))
    · refine EL.ev (el_lst ?_)
      refine ea_cons ?_ ?_
      · exact ev_fld 4 rfl x5 y5 Z.a_bp Z.f_bp (by simp)
      refine ea_cons ?_ ?_
      · exact ev_fld 5 rfl x6 y6 Z.a_ns Z.f_ns (by simp)
      refine ea_cons ?_ ?_
      · exact ev_fld 6 rfl x7 y7 Z.a_be Z.f_be (by simp)
      refine ea_cons ?_ ?_
      · exact ev_fld 7 rfl x8 y8 Z.a_br Z.f_br (by simp)
      refine ea_cons ?_ ?_
      · exact ev_fldE (er_1 Z.z_bo hr (EL.ev (el_lst (ea_cons ev_int ea_nil)))) Z.a_bo Z.f_bo (by simp)
      exact ea_nil
    · refine EL.ev (el_lst ?_)
      refine ea_cons ?_ ?_
      · exact ev_tup ea_nil
      refine ea_cons ?_ ?_
      · exact ev_str
      refine ea_cons ?_ ?_
      · exact ev_int
      refine ea_cons ?_ ?_
      · exact ev_non
      refine ea_cons ?_ ?_
      · exact EL.ev (el_lst (ea_cons ev_int ea_nil))
      exact ea_nil
    rw [if_neg Bool.false_ne_true]
    refine ss_of pss_nil ?_
    show cSs _ _ _ _ _
    replace E0 := (E0.mono s7).rebase (H' := H7) (Tup.refl _) rfl
    replace x1 := x1.same s7
    replace x2 := x2.same s7
    replace x3 := x3.same s7
    replace x4 := x4.same s7
    replace x5 := x5.same s7
    replace x6 := x6.same s7
    replace x7 := x7.same s7
    replace x8 := x8.same s7
    replace S0 := S0.trans s7
    clear s1 s2 s3 s4 s5 s7 y5 y6 y7 y8 d1 d2 sA
    -- built-in bases
    refine cs_step E0 (s1_ifF (et_w (ew_orF ?_ (ew_or1 ?_))) (ss_nil rfl)) fun σ1 H8 E1 => ?_
    · exact et_notT (et_val (ev_isT 0 T.b_isinstance T.b_RuntimeError hv_RuntimeError rfl x1 Z.a_nl Z.k_nl))
    · exact et_notT (et_val (ev_isT 1 T.b_isinstance T.b_OverflowError hv_OverflowError rfl x2 Z.a_tm Z.k_tm))
    refine cs_step E1 (s1_ifF (et_notT (et_val (ev_isT 2 T.b_isinstance T.b_KeyError hv_KeyError rfl x3 Z.a_mi Z.k_mi))) (ss_nil rfl)) fun σ2 H9 E2 => ?_
    replace x1 := (x1.same E2.ex)
    replace x2 := (x2.same E2.ex)
    replace x3 := (x3.same E2.ex)
    replace x4 := (x4.same E2.ex)
    replace x5 := (x5.same E2.ex)
    replace x6 := (x6.same E2.ex)
    replace x7 := (x7.same E2.ex)
    replace x8 := (x8.same E2.ex)
    replace S0 := S0.trans E2.ex
    replace E2 := E2.rebase (H' := H9) (Tup.refl _) rfl
    clear E0 E1
    -- not of the tree
    refine cs_cons (s_of (ps_for PassesOwn.never rfl (pi_tup (pe_tup (pa_cons (pv 0) (pa_cons (pv 1) (pa_cons (pv 2) pa_nil rfl) rfl) rfl))) (pg_name (i := 8) sc__law_errors_good.nd rfl (Or.inl rfl)) c_ss) ?_)
    refine ⟨_, E2.getRaw rfl, _, E2.getRaw rfl, _, E2.getRaw rfl, by show 3 ≤ sizeLine; decide, fun p hp => ⟨p, rfl, ⟨_, SqT.of upd_same⟩, ?_⟩⟩
    have sp : Same H9 (upd H9 p (.tup [.ref a1, .ref a2, .ref a3])) := Same.new hp
    have hT : SqT K (upd H9 p (.tup [.ref a1, .ref a2, .ref a3])) p [.ref a1, .ref a2, .ref a3] := SqT.of upd_same
    generalize upd H9 p (.tup [.ref a1, .ref a2, .ref a3]) = H10 at sp hT
    replace x1 := x1.same sp
    replace x2 := x2.same sp
    replace x3 := x3.same sp
    replace x4 := x4.same sp
    replace x5 := x5.same sp
    replace x6 := x6.same sp
    replace x7 := x7.same sp
    replace x8 := x8.same sp
    replace S0 := S0.trans sp
    replace E2 := (E2.mono sp).rebase (H' := H10) (Tup.refl _) rfl
    clear hp sp
    refine ⟨fun i m σ' H' => m = 3 - i ∧ i ≤ 3 ∧ EnvD K H10 H' σ' [.raw (.ref a1), .raw (.ref a2), .raw (.ref a3), .raw (.ref a4), .raw (.ref a5), .raw (.ref a6), .raw (.ref a7), .raw (.ref a8), .non], ⟨3, rfl, Nat.zero_le _, E2⟩, ?_⟩
    rintro i m σ' H' ⟨rfl, hi, E3⟩
    by_cases hlt : i < 3
    · refine .inr ⟨⟨_, _, sqT_same E3.ex hT, List.getElem?_eq_getElem (by simpa using hlt)⟩, fun σ' H' => i + 1 ≤ 3 ∧ EnvD K H10 H' σ' [.raw (.ref a1), .raw (.ref a2), .raw (.ref a3), .raw (.ref a4), .raw (.ref a5), .raw (.ref a6), .raw (.ref a7), .raw (.ref a8), .non], fun σ' H' ⟨u, v⟩ => ⟨3 - (i + 1), by omega, rfl, u, v⟩, ?_⟩
      rintro x H11 ⟨rfl, hx⟩
      replace hx := hx _ (sqT_same E3.ex hT)
      have hx' : ∃ (a C : Addr) (fs : List (Str × V)), x = .ref a ∧ XAt H10 a C fs ∧ XA K C ∧ PySem.W.kitOne K (.ref C) (.ref re) = some false := by
        rcases (by omega : i = 0 ∨ i = 1 ∨ i = 2) with rfl | rfl | rfl
        · cases hx; exact ⟨a1, nl, _, rfl, x1, Z.a_nl, Z.r_nl⟩
        · cases hx; exact ⟨a2, tm, _, rfl, x2, Z.a_tm, Z.r_tm⟩
        · cases hx; exact ⟨a3, mi, _, rfl, x3, Z.a_mi, Z.r_mi⟩
      obtain ⟨a, C, fs, rfl, xx, aC, kC⟩ := hx'
      have E4 := E3.setR 8 (.ref a)
      show cSs _ _ _ _ _
      generalize σ'.set 8 (some (V.ref a)) = σ4 at E4
      refine cs_one (s_of (ps_if c_t c_ss c_ss) (ET.go E4 (et_val (ev_isO 8 T.b_isinstance Z.g_re rfl xx aC kC)) fun H12 s12 => ?_))
      rw [if_neg Bool.false_ne_true]
      refine ss_of pss_nil ?_
      exact ⟨hlt, (E4.mono s12).forget 8⟩
    refine .inl ⟨⟨_, sqT_same E3.ex hT, by show 3 ≤ i; omega⟩, ?_⟩
    show cSs _ _ _ _ _
    clear E2 hlt hi hT
    replace x1 := x1.same E3.ex
    replace x2 := x2.same E3.ex
    replace x3 := x3.same E3.ex
    replace x4 := x4.same E3.ex
    replace x5 := x5.same E3.ex
    replace x6 := x6.same E3.ex
    replace x7 := x7.same E3.ex
    replace x8 := x8.same E3.ex
    replace S0 := S0.trans E3.ex
    replace E3 := E3.rebase (H' := H') (Tup.refl _) rfl
    -- of the tree
    refine cs_cons (s_of (ps_for PassesOwn.never rfl (pi_tup (pe_tup (pa_cons (pv 4) (pa_cons (pv 5) (pa_cons (pv 6) (pa_cons (pv 7) (pa_cons (pv 3) pa_nil rfl) rfl) rfl) rfl) rfl))) (pg_name (i := 8) sc__law_errors_good.nd rfl (Or.inl rfl)) c_ss) ?_)
    refine ⟨_, E3.getRaw rfl, _, E3.getRaw rfl, _, E3.getRaw rfl, _, E3.getRaw rfl, _, E3.getRaw rfl, by show 5 ≤ sizeLine; decide, fun p hp => ⟨p, rfl, ⟨_, SqT.of upd_same⟩, ?_⟩⟩
    have sp : Same H' (upd H' p (.tup [.ref a5, .ref a6, .ref a7, .ref a8, .ref a4])) := Same.new hp
    have hT : SqT K (upd H' p (.tup [.ref a5, .ref a6, .ref a7, .ref a8, .ref a4])) p [.ref a5, .ref a6, .ref a7, .ref a8, .ref a4] := SqT.of upd_same
    generalize upd H' p (.tup [.ref a5, .ref a6, .ref a7, .ref a8, .ref a4]) = H13 at sp hT
    replace x4 := x4.same sp
    replace x5 := x5.same sp
    replace x6 := x6.same sp
    replace x7 := x7.same sp
    replace x8 := x8.same sp
    replace S0 := S0.trans sp
    replace E3 := (E3.mono sp).rebase (H' := H13) (Tup.refl _) rfl
    clear hp sp x1 x2 x3
    refine ⟨fun i m σ' H' => m = 5 - i ∧ i ≤ 5 ∧ EnvD K H13 H' σ' [.raw (.ref a1), .raw (.ref a2), .raw (.ref a3), .raw (.ref a4), .raw (.ref a5), .raw (.ref a6), .raw (.ref a7), .raw (.ref a8), .non], ⟨5, rfl, Nat.zero_le _, E3⟩, ?_⟩
    rintro i m σ' H' ⟨rfl, hi, E5⟩
    by_cases hlt : i < 5
    · refine .inr ⟨⟨_, _, sqT_same E5.ex hT, List.getElem?_eq_getElem (by simpa using hlt)⟩, fun σ' H' => i + 1 ≤ 5 ∧ EnvD K H13 H' σ' [.raw (.ref a1), .raw (.ref a2), .raw (.ref a3), .raw (.ref a4), .raw (.ref a5), .raw (.ref a6), .raw (.ref a7), .raw (.ref a8), .non], fun σ' H' ⟨u, v⟩ => ⟨5 - (i + 1), by omega, rfl, u, v⟩, ?_⟩
      rintro x H14 ⟨rfl, hx⟩
      replace hx := hx _ (sqT_same E5.ex hT)
      have hx' : ∃ (a C : Addr) (fs : List (Str × V)), x = .ref a ∧ XAt H13 a C fs ∧ XA K C ∧ PySem.W.kitOne K (.ref C) (.ref re) = some true ∧ PySem.W.kitOne K (.ref C) (.type "ValueError") = some true := by
        rcases (by omega : i = 0 ∨ i = 1 ∨ i = 2 ∨ i = 3 ∨ i = 4) with rfl | rfl | rfl | rfl | rfl
        · cases hx; exact ⟨a5, bp, _, rfl, x5, Z.a_bp, Z.r_bp, Z.v_bp⟩
        · cases hx; exact ⟨a6, ns, _, rfl, x6, Z.a_ns, Z.r_ns, Z.v_ns⟩
        · cases hx; exact ⟨a7, be, _, rfl, x7, Z.a_be, Z.r_be, Z.v_be⟩
        · cases hx; exact ⟨a8, br, _, rfl, x8, Z.a_br, Z.r_br, Z.v_br⟩
        · cases hx; exact ⟨a4, bt, _, rfl, x4, Z.a_bt, Z.r_bt, Z.v_bt⟩
      obtain ⟨a, C, fs, rfl, xx, aC, kC, kV⟩ := hx'
      have E6 := E5.setR 8 (.ref a)
      show cSs _ _ _ _ _
      generalize σ'.set 8 (some (V.ref a)) = σ4 at E6
      refine cs_one (s_of (ps_if c_t c_ss c_ss) (ET.go E6 (et_w (k := false) (ew_orF (et_notT (et_val (ev_isO 8 T.b_isinstance Z.g_re rfl xx aC kC))) (ew_or1 (et_notT (et_val (ev_isT 8 T.b_isinstance T.b_ValueError hv_ValueError rfl xx aC kV)))))) fun H15 s15 => ?_))
      rw [if_neg Bool.false_ne_true]
      refine ss_of pss_nil ?_
      exact ⟨hlt, (E6.mono s15).forget 8⟩
    refine .inl ⟨⟨_, sqT_same E5.ex hT, by show 5 ≤ i; omega⟩, ?_⟩
    show cSs _ _ _ _ _
    refine cs_end (R := fun d => d = .bool true) E5 ?_ fun v H'' d s' hd e => by subst e; cases hd; exact q H'' (S0.trans s')
    refine ss_cons (s1_ifF (et_w (ew_orF ?_ (ew_orF ?_ (ew_or1 ?_)))) (ss_nil ?_))
    · exact et_val (ev_isO 4 T.b_isinstance Z.z_ns.gC rfl x5 Z.a_bp Z.o_bp)
    · exact et_val (ev_isO 5 T.b_isinstance Z.z_bp.gC rfl x6 Z.a_ns Z.o_ns)
    · exact et_val (ev_isO 7 T.b_isinstance Z.g_bf rfl x8 Z.a_br Z.o_br)
    refine ss_one (s1_ret (ev_andT (ev_isR T.b_isinstance Z.g_re Z.q_re Z.k_re Z.a_re (pe_bltn (v := .ty "ValueError") rfl T.b_ValueError hv_ValueError rfl) (.ty "ValueError") Z.v_re) (ev_one (ev_not (ev_isR T.b_isinstance Z.g_re Z.q_re Z.k_re Z.a_re (pe_glob (v := .ref bl) rfl Z.g_bl rfl) (.own bl) Z.o_re)))) rfl)
end
end RS

set_option Elab.async false
/-! Plain: polynomials as functions; the sum over a share. -/
namespace RS
/-! ### polynomials' values -/
def Sm (f : Nat → Rat) (x : Rat) : Nat → Rat
  | 0 => 0
  | n + 1 => Sm f x n + f n * x ^ n
theorem sm_shift (f : Nat → Rat) (x : Rat) : ∀ n, Sm f x (n + 1) = f 0 + x * Sm (fun i => f (i + 1)) x n
  | 0 => by simp [Sm]; grind
  | n + 1 => by
    have ih := sm_shift f x n
    rw [Sm, ih, Sm, Rat.pow_succ]
    grind
theorem sm_zero (x : Rat) : ∀ n, Sm (fun _ => 0) x n = 0
  | 0 => rfl
  | n + 1 => by rw [Sm, sm_zero]; grind
theorem sm_congr {f g : Nat → Rat} {x : Rat} (h : ∀ i, f i = g i) : ∀ n, Sm f x n = Sm g x n
  | 0 => rfl
  | n + 1 => by rw [Sm, Sm, sm_congr h n, h n]
theorem horner_sm : ∀ (p : List Rat) (x : Rat) (n : Nat), p.length ≤ n → horner p x = Sm (co p) x n
  | [], x, n, _ => by
    rw [sm_congr (g := fun _ => 0) (fun i => co_nil i), sm_zero]; rfl
  | a :: p, x, 0, h => by simp at h
  | a :: p, x, n + 1, h => by
    rw [sm_shift]
    show horner p x * x + a = co (a :: p) 0 + x * Sm (fun i => co p i) x n
    rw [horner_sm p x n (by simpa using h), co_cons_zero]
    grind
theorem sm_add (f g : Nat → Rat) (x : Rat) : ∀ n, Sm (fun i => f i + g i) x n = Sm f x n + Sm g x n
  | 0 => by simp [Sm]; grind
  | n + 1 => by rw [Sm, Sm, Sm, sm_add f g x n]; grind
theorem sm_sub (f g : Nat → Rat) (x : Rat) : ∀ n, Sm (fun i => f i - g i) x n = Sm f x n - Sm g x n
  | 0 => by simp [Sm]; grind
  | n + 1 => by rw [Sm, Sm, Sm, sm_sub f g x n]; grind
theorem sm_mul (f : Nat → Rat) (a x : Rat) : ∀ n, Sm (fun i => f i * a) x n = Sm f x n * a
  | 0 => by simp [Sm]
  | n + 1 => by rw [Sm, Sm, sm_mul f a x n]; grind
theorem horner_psum (p q : List Rat) (x : Rat) : horner (psum p q) x = horner p x + horner q x := by
  rw [horner_sm (psum p q) x (max p.length q.length) (psum_len p q), horner_sm p x (max p.length q.length) (by omega), horner_sm q x (max p.length q.length) (by omega), ← sm_add]
  exact sm_congr (co_psum p q) _
theorem horner_psub (p q : List Rat) (x : Rat) : horner (psub p q) x = horner p x - horner q x := by
  rw [horner_sm (psub p q) x (max p.length q.length) (psub_len p q), horner_sm p x (max p.length q.length) (by omega), horner_sm q x (max p.length q.length) (by omega), ← sm_sub]
  exact sm_congr (co_psub p q) _
theorem horner_ptim (p : List Rat) (a x : Rat) : horner (ptim p a) x = horner p x * a := by
  rw [horner_sm (ptim p a) x p.length (ptim_len p a), horner_sm p x p.length (Nat.le_refl _), ← sm_mul]
  exact sm_congr (co_ptim p a) _
theorem horner_rep (p : List Rat) (x : Rat) : ∀ n, horner (List.replicate n 0 ++ p) x = horner p x * x ^ n
  | 0 => by simp
  | n + 1 => by
    rw [List.replicate_succ, List.cons_append]
    show horner (List.replicate n 0 ++ p) x * x + 0 = _
    rw [horner_rep p x n, Rat.pow_succ]
    grind
theorem horner_pshf (p : List Rat) (n : Nat) (x : Rat) : horner (pshf p n) x = horner p x * x ^ n := by
  unfold pshf
  by_cases h : p = []
  · subst h; rw [if_pos rfl]; simp [horner]
  · rw [if_neg h, horner_rep]
theorem horner_pmulTo (p q : List Rat) (x : Rat) : ∀ k, horner (pmulTo p q k) x = Sm (co p) x k * horner q x
  | 0 => by simp [pmulTo, horner, Sm]
  | k + 1 => by
    rw [pmulTo, horner_psum, horner_pmulTo p q x k, horner_pshf, horner_ptim, Sm]
    grind
theorem horner_pmul (p q : List Rat) (x : Rat) : horner (pmul p q) x = horner p x * horner q x := by
  rw [pmul, horner_pmulTo, ← horner_sm p x p.length (Nat.le_refl _)]
theorem horner_nxt (p q : List Rat) (a b x : Rat) : horner (nxt p q a b) x = (x - a) * horner p x - b * horner q x := by
  rw [nxt, horner_psub, horner_psub, horner_pshf, horner_ptim, horner_ptim]
  grind
/-! ### the sum over a share -/
def Ls (S : Shr) (f : Rat → Rat) : Rat := (S.map fun a => a.2 * f a.1).sum
theorem ls_nil (f : Rat → Rat) : Ls [] f = 0 := rfl
theorem ls_cons (a : Rat × Rat) (S : Shr) (f : Rat → Rat) : Ls (a :: S) f = a.2 * f a.1 + Ls S f := rfl
theorem ls_congr {S : Shr} {f g : Rat → Rat} (h : ∀ a ∈ S, f a.1 = g a.1) : Ls S f = Ls S g := by
  unfold Ls
  rw [List.map_congr_left (fun a ha => by rw [h a ha])]
theorem ls_add (S : Shr) (f g : Rat → Rat) : Ls S (fun x => f x + g x) = Ls S f + Ls S g := by
  induction S with
  | nil => simp [ls_nil]; grind
  | cons a S ih => rw [ls_cons, ls_cons, ls_cons, ih]; grind
theorem ls_sub (S : Shr) (f g : Rat → Rat) : Ls S (fun x => f x - g x) = Ls S f - Ls S g := by
  induction S with
  | nil => simp [ls_nil]; grind
  | cons a S ih => rw [ls_cons, ls_cons, ls_cons, ih]; grind
theorem ls_mul (S : Shr) (c : Rat) (f : Rat → Rat) : Ls S (fun x => c * f x) = c * Ls S f := by
  induction S with
  | nil => rw [ls_nil, ls_nil]; grind
  | cons a S ih => rw [ls_cons, ls_cons, ih]; grind
theorem mo_ls (S : Shr) (k : Nat) : mo S k = Ls S (fun x => x ^ k) := rfl
theorem dot_ls (S : Shr) : ∀ (p : List Rat) (j m : Nat), p.length ≤ m → dot p ((List.range m).map fun i => mo S (i + j)) = Ls S (fun x => horner p x * x ^ j)
  | [], j, m, _ => by
    rw [ls_congr (g := fun x => 0 * x) (fun a _ => by simp [horner]), ls_mul]
    simp [dot]
  | a :: p, j, 0, h => by simp at h
  | a :: p, j, m + 1, h => by
    have ih := dot_ls S p (j + 1) m (by simpa using h)
    have e : (List.range (m + 1)).map (fun i => mo S (i + j)) = mo S j :: (List.range m).map fun i => mo S (i + (j + 1)) := by
      rw [List.range_succ_eq_map, List.map_cons, List.map_map, Nat.zero_add]
      congr 1
      apply List.map_congr_left
      intro i _
      show mo S (i + 1 + j) = _
      rw [Nat.add_assoc, Nat.add_comm 1 j]
    rw [e]
    show a * mo S j + dot p _ = _
    rw [ih, mo_ls, ← ls_mul, ← ls_add]
    apply ls_congr
    intro b _
    show a * b.1 ^ j + horner p b.1 * b.1 ^ (j + 1) = (horner p b.1 * b.1 + a) * b.1 ^ j
    rw [Rat.pow_succ]
    grind
theorem dot_moms (S : Shr) (p : List Rat) (n : Nat) (h : p.length ≤ n + 1) : dot p (moms S n) = Ls S (horner p) := by
  have := dot_ls S p 0 (n + 1) h
  simp only [Nat.add_zero] at this
  unfold moms
  rw [show (mo S) = fun i => mo S i from rfl, this]
  apply ls_congr
  intro a _
  rw [Rat.pow_zero, Rat.mul_one]
end RS

set_option Elab.async false
/-! Plain: orthogonal polynomials of a share. -/
namespace RS
/-! ### roots -/
/-- p divided by x - y, without rest -/
def sdv : List Rat → Rat → List Rat
  | [], _ => []
  | _ :: p, y => match p with
    | [] => []
    | _ :: _ => horner p y :: sdv p y
theorem sdv_len : ∀ (p : List Rat) (y : Rat), (sdv p y).length = p.length - 1
  | [], _ => rfl
  | [_], _ => rfl
  | a :: b :: p, y => by
    show (horner (b :: p) y :: sdv (b :: p) y).length = _
    rw [List.length_cons, sdv_len (b :: p) y]
    simp
theorem sdv_val : ∀ (p : List Rat) (x y : Rat), horner p x - horner p y = (x - y) * horner (sdv p y) x
  | [], x, y => by simp [horner, sdv]; grind
  | [a], x, y => by simp [horner, sdv]; grind
  | a :: b :: p, x, y => by
    have ih := sdv_val (b :: p) x y
    show horner (b :: p) x * x + a - (horner (b :: p) y * y + a) = (x - y) * (horner (sdv (b :: p) y) x * x + horner (b :: p) y)
    grind
theorem sdv_top : ∀ (p : List Rat) (y : Rat) (n : Nat), p.length = n + 2 → co (sdv p y) n = co p (n + 1)
  | [], _, _, h => by simp at h
  | [_], _, _, h => by simp at h
  | [a, b], y, 0, _ => by
    show horner [b] y = b
    simp [horner, Rat.zero_add]
  | [a, b], y, n + 1, h => by simp at h
  | a :: b :: c :: p, y, 0, h => by simp at h
  | a :: b :: c :: p, y, n + 1, h => by
    have ih := sdv_top (b :: c :: p) y n (by simpa using h)
    show co (horner (b :: c :: p) y :: sdv (b :: c :: p) y) (n + 1) = co (b :: c :: p) (n + 1)
    rw [co_cons_succ, ih]
/-- as many roots as that: nought -/
theorem roots : ∀ (n : Nat) (p : List Rat) (ys : List Rat), p.length = n + 1 → co p n ≠ 0 → ys.length = n + 1 → ys.Nodup → (∀ y ∈ ys, horner p y = 0) → False
  | 0, p, ys, hp, hc, hl, _, h => by
    match p, ys, hp, hl with
    | [a], [y], _, _ =>
      have := h y (by simp)
      have e : co [a] 0 = a := rfl
      rw [e] at hc
      simp [horner] at this
      grind
  | n + 1, p, ys, hp, hc, hl, hn, h => by
    match ys, hl with
    | y :: ys, hl =>
      rw [List.nodup_cons] at hn
      have hy : horner p y = 0 := h y List.mem_cons_self
      refine roots n (sdv p y) ys (by rw [sdv_len]; omega) (by rw [sdv_top p y n hp]; exact hc) (by simpa using hl) hn.2 fun z hz => ?_
      have h1 := sdv_val p z y
      have h2 : horner p z = 0 := h z (List.mem_cons_of_mem _ hz)
      have hne : z ≠ y := fun e => hn.1 (e ▸ hz)
      rw [h2, hy] at h1
      have h3 : (z - y) * horner (sdv p y) z = 0 := by grind
      rcases Rat.mul_eq_zero.mp h3 with h4 | h4
      · exact absurd (by grind) hne
      · exact h4
/-! ### the rungs -/
theorem pol_length {p : List Rat} {n : Nat} (h : Pol p) (h1 : co p n ≠ 0) (h2 : ∀ i, n < i → co p i = 0) : p.length = n + 1 := by
  have h3 : n < p.length := by
    apply Decidable.byContradiction
    intro h4
    exact h1 (co_out (by omega))
  rcases pol_len h with e | e
  · subst e; simp at h3
  · apply Decidable.byContradiction
    intro h4
    exact e (h2 _ (by omega))
def Hp' (S : Shr) (p : List Rat) : Rat := Ls S fun x => horner p x * horner p x
def Ap (S : Shr) (p : List Rat) : Rat := Ls S (fun x => x * (horner p x * horner p x)) / Hp' S p
def Pq (S : Shr) : Nat → List Rat × List Rat
  | 0 => ([1], [])
  | k + 1 => (nxt (Pq S k).1 (Pq S k).2 (Ap S (Pq S k).1) (if k = 0 then 0 else Hp' S (Pq S k).1 / Hp' S (Pq S k).2), (Pq S k).1)
def Pk (S : Shr) (k : Nat) : List Rat := (Pq S k).1
def Hk (S : Shr) (k : Nat) : Rat := Hp' S (Pk S k)
def Ak (S : Shr) (k : Nat) : Rat := Ap S (Pk S k)
theorem pq_snd (S : Shr) (k : Nat) : (Pq S k).2 = Qk (Pk S) k := by
  cases k with
  | zero => rfl
  | succ k => rfl
theorem pk_succ (S : Shr) (k : Nat) : Pk S (k + 1) = nxt (Pk S k) (Qk (Pk S) k) (Ak S k) (Bk (Hk S) k) := by
  show nxt (Pq S k).1 (Pq S k).2 _ _ = _
  rw [pq_snd]
  congr 1
  unfold Bk
  cases k with
  | zero => rfl
  | succ k => rfl
/-- their values -/
def vv (S : Shr) (k : Nat) (x : Rat) : Rat := horner (Pk S k) x
theorem vv_zero (S : Shr) (x : Rat) : vv S 0 x = 1 := by
  show horner [1] x = 1
  simp [horner, Rat.zero_add]
theorem bk_zero (H : Nat → Rat) : Bk H 0 = 0 := rfl
theorem vv_succ (S : Shr) (k : Nat) (x : Rat) : vv S (k + 1) x = (x - Ak S k) * vv S k x - Bk (Hk S) k * vv S (k - 1) x := by
  unfold vv
  rw [pk_succ, horner_nxt]
  cases k with
  | zero => rw [bk_zero]; grind
  | succ k => rfl
theorem hk_eq (S : Shr) (k : Nat) : Hk S k = Ls S fun x => vv S k x * vv S k x := rfl
theorem ak_eq (S : Shr) (k : Nat) : Ak S k = Ls S (fun x => x * (vv S k x * vv S k x)) / Hk S k := rfl
theorem bk_mul (S : Shr) (k : Nat) (h : Hk S k ≠ 0) : Bk (Hk S) (k + 1) * Hk S k = Hk S (k + 1) := by
  show Hk S (k + 1) / Hk S k * Hk S k = _
  exact Rat.div_mul_cancel h
theorem ak_mul (S : Shr) (k : Nat) (h : Hk S k ≠ 0) : Ak S k * Hk S k = Ls S (fun x => x * (vv S k x * vv S k x)) := by
  rw [ak_eq]
  exact Rat.div_mul_cancel h
/-- the inner product -/
def ip (S : Shr) (f g : Rat → Rat) : Rat := Ls S fun x => f x * g x
theorem ip_comm (S : Shr) (f g : Rat → Rat) : ip S f g = ip S g f := ls_congr fun a _ => by grind
theorem ip_x (S : Shr) (i : Nat) (g : Rat → Rat) : ip S (fun x => x * vv S i x) g = ip S (vv S (i + 1)) g + Ak S i * ip S (vv S i) g + Bk (Hk S) i * ip S (vv S (i - 1)) g := by
  unfold ip
  rw [← ls_mul, ← ls_mul, ← ls_add, ← ls_add]
  apply ls_congr
  intro a _
  rw [vv_succ]
  grind
theorem ip_next (S : Shr) (n : Nat) (f : Rat → Rat) : ip S f (vv S (n + 1)) = ip S (fun x => x * f x) (vv S n) - Ak S n * ip S f (vv S n) - Bk (Hk S) n * ip S f (vv S (n - 1)) := by
  unfold ip
  rw [← ls_mul, ← ls_mul, ← ls_sub, ← ls_sub]
  apply ls_congr
  intro a _
  rw [vv_succ]
  grind
theorem orth (S : Shr) : ∀ n, (∀ k, k < n → Hk S k ≠ 0) → ∀ i j, i < j → j ≤ n → ip S (vv S i) (vv S j) = 0
  | 0, _, i, j, h1, h2 => by omega
  | n + 1, hz, i, j, h1, h2 => by
    have O := orth S n fun k hk => hz k (by omega)
    by_cases hj : j ≤ n
    · exact O i j h1 hj
    · have ej : j = n + 1 := by omega
      subst ej
      rw [ip_next, ip_x]
      have hb : Bk (Hk S) i * ip S (vv S (i - 1)) (vv S n) = 0 := by
        cases i with
        | zero => rw [bk_zero, Rat.zero_mul]
        | succ i => rw [show i + 1 - 1 = i by omega, O i n (by omega) (Nat.le_refl _), Rat.mul_zero]
      by_cases h3 : i = n
      · subst h3
        have hb' : Bk (Hk S) i * ip S (vv S i) (vv S (i - 1)) = 0 := by
          cases i with
          | zero => rw [bk_zero, Rat.zero_mul]
          | succ i => rw [ip_comm, show i + 1 - 1 = i by omega, O i (i + 1) (by omega) (Nat.le_refl _), Rat.mul_zero]
        have ha := ak_mul S i (hz i (by omega))
        have hx : ip S (vv S (i + 1)) (vv S i) + Ak S i * ip S (vv S i) (vv S i) + Bk (Hk S) i * ip S (vv S (i - 1)) (vv S i) = Ls S (fun x => x * (vv S i x * vv S i x)) := by
          rw [← ip_x]
          exact ls_congr fun a _ => by grind
        rw [hx, hb', ← ha]
        show _ - Ak S i * Hk S i - 0 = 0
        grind
      · have hin : ip S (vv S i) (vv S n) = 0 := O i n (by omega) (Nat.le_refl _)
        rw [hb, hin]
        by_cases h4 : i + 1 = n
        · subst h4
          rw [show i + 1 - 1 = i by omega]
          have hm := bk_mul S i (hz i (by omega))
          have e1 : ip S (vv S (i + 1)) (vv S (i + 1)) = Hk S (i + 1) := rfl
          have e2 : ip S (vv S i) (vv S i) = Hk S i := rfl
          rw [e1, e2, hm]
          grind
        · have h5 : ip S (vv S (i + 1)) (vv S n) = 0 := O (i + 1) n (by omega) (Nat.le_refl _)
          have h6 : ip S (vv S i) (vv S (n - 1)) = 0 := O i (n - 1) (by omega) (by omega)
          rw [h5, h6]
          grind
/-- a product of (x - c) -/
def nw : List Rat → Rat → Rat
  | [], _ => 1
  | c :: cs, x => (x - c) * nw cs x
theorem newton (S : Shr) (m : Nat) (hz : ∀ k, k < m → Hk S k ≠ 0) : ∀ (cs : List Rat) (i : Nat), i + cs.length < m → ip S (vv S m) (fun x => nw cs x * vv S i x) = 0
  | [], i, h => by
    have := orth S m hz i m (by simpa using h) (Nat.le_refl _)
    rw [ip_comm] at this
    rw [← this]
    exact ls_congr fun a _ => by simp [nw, Rat.one_mul]
  | c :: cs, i, h => by
    have h' : i + cs.length + 1 < m := by simpa [Nat.add_assoc] using h
    have h1 := newton S m hz cs (i + 1) (by omega)
    have h2 := newton S m hz cs i (by omega)
    have h3 : Bk (Hk S) i * ip S (vv S m) (fun x => nw cs x * vv S (i - 1) x) = 0 := by
      cases i with
      | zero => rw [bk_zero, Rat.zero_mul]
      | succ i => rw [show i + 1 - 1 = i by omega, newton S m hz cs i (by omega), Rat.mul_zero]
    have e : ip S (vv S m) (fun x => nw (c :: cs) x * vv S i x) = ip S (vv S m) (fun x => nw cs x * vv S (i + 1) x) + (Ak S i - c) * ip S (vv S m) (fun x => nw cs x * vv S i x) + Bk (Hk S) i * ip S (vv S m) (fun x => nw cs x * vv S (i - 1) x) := by
      unfold ip
      rw [← ls_mul, ← ls_mul, ← ls_add, ← ls_add]
      apply ls_congr
      intro a _
      show vv S m a.1 * ((a.1 - c) * nw cs a.1 * vv S i a.1) = vv S m a.1 * (nw cs a.1 * vv S (i + 1) a.1) + (Ak S i - c) * (vv S m a.1 * (nw cs a.1 * vv S i a.1)) + Bk (Hk S) i * (vv S m a.1 * (nw cs a.1 * vv S (i - 1) a.1))
      rw [vv_succ]
      grind
    rw [e, h1, h2, h3]
    grind
/-! ### monic -/
theorem pk_monic (S : Shr) : ∀ k, Pol (Pk S k) ∧ (Pk S k).length = k + 1 ∧ co (Pk S k) k = 1 ∧ (Qk (Pk S) k).length ≤ k
  | 0 => ⟨.inr ⟨1, rfl, by decide⟩, rfl, rfl, Nat.zero_le _⟩
  | k + 1 => by
    obtain ⟨_, h2, h3, h4⟩ := pk_monic S k
    have hc : ∀ i, co (Pk S (k + 1)) i = (if i < 1 then 0 else co (Pk S k) (i - 1)) - co (Pk S k) i * Ak S k - co (Qk (Pk S) k) i * Bk (Hk S) k := by
      intro i
      rw [pk_succ, nxt, co_psub, co_psub, co_pshf, co_ptim, co_ptim]
    have hp : Pol (Pk S (k + 1)) := by rw [pk_succ]; exact pol_trim _
    have h1 : co (Pk S (k + 1)) (k + 1) = 1 := by
      rw [hc, if_neg (by omega), Nat.add_sub_cancel, h3, co_out (p := Pk S k) (by omega), co_out (p := Qk (Pk S) k) (by omega)]
      grind
    have h0 : ∀ i, k + 1 < i → co (Pk S (k + 1)) i = 0 := by
      intro i hi
      rw [hc, if_neg (by omega), co_out (p := Pk S k) (by omega), co_out (p := Pk S k) (by omega), co_out (p := Qk (Pk S) k) (by omega)]
      grind
    refine ⟨hp, pol_length hp (by rw [h1]; decide) h0, h1, ?_⟩
    show (Pk S k).length ≤ k + 1
    omega
/-! ### positive weights, different numbers -/
structure PosW (S : Shr) : Prop where
  nd : (S.map (·.1)).Nodup
  w : ∀ a ∈ S, 0 < a.2
theorem sq_nonneg (x : Rat) : 0 ≤ x * x := by
  by_cases h : 0 ≤ x
  · exact Rat.mul_nonneg h h
  · have h1 : 0 ≤ -x := by grind
    have := Rat.mul_nonneg h1 h1
    grind
theorem ls_nonneg : ∀ {S : Shr} {f : Rat → Rat}, (∀ a ∈ S, 0 < a.2) → (∀ a ∈ S, 0 ≤ f a.1) → 0 ≤ Ls S f
  | [], f, _, _ => by rw [ls_nil]; exact Rat.le_refl
  | a :: S, f, hw, hf => by
    have ih := ls_nonneg (S := S) (f := f) (fun b hb => hw b (List.mem_cons_of_mem _ hb)) fun b hb => hf b (List.mem_cons_of_mem _ hb)
    rw [ls_cons]
    have h1 := Rat.mul_nonneg (Rat.le_of_lt (hw a List.mem_cons_self)) (hf a List.mem_cons_self)
    grind
theorem ls_zero : ∀ {S : Shr} {f : Rat → Rat}, (∀ a ∈ S, 0 < a.2) → (∀ a ∈ S, 0 ≤ f a.1) → Ls S f = 0 → ∀ a ∈ S, f a.1 = 0
  | [], f, _, _, _, a, ha => by cases ha
  | b :: S, f, hw, hf, h0, a, ha => by
    have hw' : ∀ b ∈ S, 0 < b.2 := fun b hb => hw b (List.mem_cons_of_mem _ hb)
    have hf' : ∀ b ∈ S, 0 ≤ f b.1 := fun b hb => hf b (List.mem_cons_of_mem _ hb)
    have n2 := ls_nonneg hw' hf'
    have wb := hw b List.mem_cons_self
    have n1 := Rat.mul_nonneg (Rat.le_of_lt wb) (hf b List.mem_cons_self)
    rw [ls_cons] at h0
    have e1 : b.2 * f b.1 = 0 := by grind
    have e2 : Ls S f = 0 := by grind
    rcases List.mem_cons.mp ha with rfl | ha
    · rcases Rat.mul_eq_zero.mp e1 with h | h
      · grind
      · exact h
    · exact ls_zero hw' hf' e2 a ha
theorem hk_nonneg {S : Shr} (h : PosW S) (k : Nat) : 0 ≤ Hk S k := ls_nonneg h.w fun a _ => sq_nonneg _
theorem hk_zero {S : Shr} (h : PosW S) {k : Nat} (h0 : Hk S k = 0) : ∀ a ∈ S, vv S k a.1 = 0 := fun a ha => by
  have := ls_zero h.w (f := fun x => vv S k x * vv S k x) (fun a _ => sq_nonneg _) h0 a ha
  rcases Rat.mul_eq_zero.mp this with h | h <;> exact h
theorem hk_pos {S : Shr} (h : PosW S) {k : Nat} (hk : k < S.length) : 0 < Hk S k := by
  have h1 := hk_nonneg h k
  by_cases h0 : Hk S k = 0
  · exfalso
    obtain ⟨_, m2, m3, _⟩ := pk_monic S k
    have hz := hk_zero h h0
    refine roots k (Pk S k) ((S.map (·.1)).take (k + 1)) m2 (by rw [m3]; decide) (by simp; omega) (h.nd.sublist (List.take_sublist _ _)) fun y hy => ?_
    obtain ⟨a, ha, rfl⟩ := List.mem_map.mp (List.mem_of_mem_take hy)
    exact hz a ha
  · grind
theorem nw_zero : ∀ {cs : List Rat} {x : Rat}, x ∈ cs → nw cs x = 0
  | c :: cs, x, h => by
    rcases List.mem_cons.mp h with rfl | h
    · show (x - x) * nw cs x = 0
      grind
    · show (x - c) * nw cs x = 0
      rw [nw_zero h, Rat.mul_zero]
theorem nw_ne : ∀ {cs : List Rat} {x : Rat}, x ∉ cs → nw cs x ≠ 0
  | [], x, _ => by show (1 : Rat) ≠ 0; decide
  | c :: cs, x, h => by
    rw [List.mem_cons, not_or] at h
    show (x - c) * nw cs x ≠ 0
    intro e
    rcases Rat.mul_eq_zero.mp e with e | e
    · exact h.1 (by grind)
    · exact nw_ne h.2 e
theorem ls_none : ∀ {S : Shr} {f : Rat → Rat}, (∀ a ∈ S, f a.1 = 0) → Ls S f = 0
  | [], f, _ => rfl
  | a :: S, f, h => by
    rw [ls_cons, h a List.mem_cons_self, ls_none fun b hb => h b (List.mem_cons_of_mem _ hb)]
    grind
theorem ls_single : ∀ {S : Shr} {f : Rat → Rat} {a : Rat × Rat}, (S.map (·.1)).Nodup → a ∈ S → (∀ b ∈ S, b.1 ≠ a.1 → f b.1 = 0) → Ls S f = a.2 * f a.1
  | b :: S, f, a, hn, ha, h => by
    rw [List.map_cons, List.nodup_cons] at hn
    rw [ls_cons]
    rcases List.mem_cons.mp ha with rfl | ha
    · rw [ls_none (S := S) fun c hc => h c (List.mem_cons_of_mem _ hc) fun e => hn.1 (by rw [← e]; exact List.mem_map_of_mem hc)]
      grind
    · have hne : b.1 ≠ a.1 := fun e => hn.1 (by rw [e]; exact List.mem_map_of_mem ha)
      rw [h b List.mem_cons_self hne, ls_single hn.2 ha fun c hc => h c (List.mem_cons_of_mem _ hc)]
      grind
/-- at the end: nought at every number -/
theorem vv_end {S : Shr} (h : PosW S) : ∀ a ∈ S, vv S S.length a.1 = 0 := fun a ha => by
  have hz : ∀ k, k < S.length → Hk S k ≠ 0 := fun k hk e => by have := hk_pos h hk; grind
  have hm : a.1 ∈ S.map (·.1) := List.mem_map_of_mem ha
  have hl : ((S.map (·.1)).erase a.1).length = S.length - 1 := by rw [List.length_erase_of_mem hm, List.length_map]
  have hpos : 0 < S.length := List.length_pos_of_mem ha
  have hnw := newton S S.length hz ((S.map (·.1)).erase a.1) 0 (by omega)
  have hs : ip S (vv S S.length) (fun x => nw ((S.map (·.1)).erase a.1) x * vv S 0 x) = a.2 * (vv S S.length a.1 * (nw ((S.map (·.1)).erase a.1) a.1 * vv S 0 a.1)) := by
    refine ls_single h.nd ha fun b hb hne => ?_
    show vv S S.length b.1 * (nw ((S.map (·.1)).erase a.1) b.1 * vv S 0 b.1) = 0
    rw [nw_zero ((List.mem_erase_of_ne hne).mpr (List.mem_map_of_mem hb))]
    grind
  rw [hs] at hnw
  have hw := h.w a ha
  have hn : nw ((S.map (·.1)).erase a.1) a.1 ≠ 0 := nw_ne (List.Nodup.not_mem_erase h.nd)
  rcases Rat.mul_eq_zero.mp hnw with e | e
  · grind
  · rcases Rat.mul_eq_zero.mp e with e | e
    · exact e
    · rw [vv_zero, Rat.mul_one] at e
      exact absurd e hn
theorem hk_end {S : Shr} (h : PosW S) : Hk S S.length = 0 := by
  rw [hk_eq]
  refine ls_none fun a ha => ?_
  show vv S S.length a.1 * vv S S.length a.1 = 0
  rw [vv_end h a ha, Rat.mul_zero]
end RS

set_option Elab.async false
set_option exponentiation.threshold 5000
/-! Plain: sizes by common denominators; shares told by their moments. -/
namespace RS
/-! ### whole multiples -/
def It (D : Nat) (r : Rat) : Prop := ∃ a : Int, r * (D : Rat) = (a : Rat)
theorem it_int (D : Nat) (n : Int) : It D (n : Rat) := ⟨n * D, by rw [Rat.intCast_mul]; rfl⟩
theorem it_zero (D : Nat) : It D 0 := ⟨0, by rw [Rat.zero_mul]; rfl⟩
theorem it_add {D : Nat} {r s : Rat} (h : It D r) (h' : It D s) : It D (r + s) := by
  obtain ⟨a, ha⟩ := h
  obtain ⟨b, hb⟩ := h'
  exact ⟨a + b, by rw [Rat.intCast_add, ← ha, ← hb]; grind⟩
theorem it_sub {D : Nat} {r s : Rat} (h : It D r) (h' : It D s) : It D (r - s) := by
  obtain ⟨a, ha⟩ := h
  obtain ⟨b, hb⟩ := h'
  exact ⟨a - b, by rw [Rat.intCast_sub, ← ha, ← hb]; grind⟩
theorem it_mul {D E : Nat} {r s : Rat} (h : It D r) (h' : It E s) : It (D * E) (r * s) := by
  obtain ⟨a, ha⟩ := h
  obtain ⟨b, hb⟩ := h'
  exact ⟨a * b, by rw [Rat.intCast_mul, ← ha, ← hb, Rat.natCast_mul]; grind⟩
theorem it_dvd {D E : Nat} {r : Rat} (h : It D r) (hd : D ∣ E) : It E r := by
  obtain ⟨a, ha⟩ := h
  obtain ⟨c, rfl⟩ := hd
  exact ⟨a * c, by rw [Rat.intCast_mul, ← ha, Rat.natCast_mul]; show _ = r * (D : Rat) * ((c : Int) : Rat); rw [Rat.intCast_natCast]; grind⟩
theorem it_sum {D : Nat} : ∀ {l : List Rat}, (∀ x ∈ l, It D x) → It D l.sum
  | [], _ => it_zero D
  | a :: l, h => by
    rw [List.sum_cons]
    exact it_add (h a List.mem_cons_self) (it_sum fun x hx => h x (List.mem_cons_of_mem _ hx))
theorem it_fz {D M : Nat} {r : Rat} (h : It D r) (hD : 0 < D) (h1 : -(M : Rat) ≤ r) (h2 : r ≤ M) (hM : M * D < 2 ^ 4400) (hD2 : D < 2 ^ 4400) : Fz r := by
  obtain ⟨a, ha⟩ := h
  have hD0 : (0 : Rat) < (D : Rat) := by exact_mod_cast hD
  have hr : r = Rat.divInt a D := by
    rw [Rat.divInt_eq_div]
    show r = (a : Rat) / (D : Rat)
    rw [← ha, Rat.mul_div_cancel (by grind)]
  have e1 : r.num.natAbs ≤ a.natAbs := by
    rw [hr, made_num (by omega)]
    exact Int.natAbs_ediv_le_natAbs _ _
  have e2 : r.den ≤ D := by
    have h := made_den (a := a) (b := (D : Int)) (by omega)
    rw [← hr] at h
    have h' := Int.natAbs_ediv_le_natAbs (D : Int) ((Int.gcd a (D : Int) : Nat) : Int)
    rw [← h] at h'
    simpa using h'
  have b1 : (a : Rat) ≤ ((M * D : Nat) : Rat) := by
    rw [← ha, Rat.natCast_mul]
    exact Rat.mul_le_mul_of_nonneg_right h2 (Rat.le_of_lt hD0)
  have b2 : -((M * D : Nat) : Rat) ≤ (a : Rat) := by
    rw [← ha, Rat.natCast_mul]
    have := Rat.mul_le_mul_of_nonneg_right h1 (Rat.le_of_lt hD0)
    grind
  have b3 : a ≤ ((M * D : Nat) : Int) := by exact_mod_cast b1
  have b2' : ((-a : Int) : Rat) ≤ ((M * D : Nat) : Rat) := by rw [Rat.intCast_neg]; grind
  have b4 : -a ≤ ((M * D : Nat) : Int) := by exact_mod_cast b2'
  exact ⟨by omega, by omega⟩
/-! ### level n, b bits -/
def Gd (D n b : Nat) (r : Rat) : Prop := It (D ^ n) r ∧ -((2 ^ b : Nat) : Rat) ≤ r ∧ r ≤ ((2 ^ b : Nat) : Rat)
section
variable {D n m b c : Nat} {r s : Rat}
theorem pow_cast_le (h : b ≤ c) : ((2 ^ b : Nat) : Rat) ≤ ((2 ^ c : Nat) : Rat) := by
  have := Nat.pow_le_pow_right (n := 2) (by decide) h
  exact_mod_cast this
theorem gd_mono (h : Gd D n b r) (hn : n ≤ m) (hb : b ≤ c) : Gd D m c r := by
  obtain ⟨h1, h2, h3⟩ := h
  have := pow_cast_le hb
  exact ⟨it_dvd h1 (Nat.pow_dvd_pow D hn), by grind, by grind⟩
theorem gd_zero (D n b : Nat) : Gd D n b 0 := by
  have : (0 : Rat) ≤ ((2 ^ b : Nat) : Rat) := by exact_mod_cast Nat.zero_le _
  exact ⟨it_zero _, by grind, by grind⟩
theorem pow_cast_succ (b : Nat) : ((2 ^ (b + 1) : Nat) : Rat) = ((2 ^ b : Nat) : Rat) + ((2 ^ b : Nat) : Rat) := by
  rw [Nat.pow_succ, Nat.mul_two, Rat.natCast_add]
theorem gd_add (h : Gd D n b r) (h' : Gd D n b s) : Gd D n (b + 1) (r + s) := by
  obtain ⟨h1, h2, h3⟩ := h
  obtain ⟨g1, g2, g3⟩ := h'
  refine ⟨it_add h1 g1, ?_, ?_⟩ <;> rw [pow_cast_succ] <;> grind
theorem gd_sub (h : Gd D n b r) (h' : Gd D n b s) : Gd D n (b + 1) (r - s) := by
  obtain ⟨h1, h2, h3⟩ := h
  obtain ⟨g1, g2, g3⟩ := h'
  refine ⟨it_sub h1 g1, ?_, ?_⟩ <;> rw [pow_cast_succ] <;> grind
theorem abs_mul {x y p q : Rat} (h1 : -p ≤ x) (h2 : x ≤ p) (h3 : -q ≤ y) (h4 : y ≤ q) : -(p * q) ≤ x * y ∧ x * y ≤ p * q := by
  have a1 : 0 ≤ p - x := by grind
  have a2 : 0 ≤ p + x := by grind
  have a3 : 0 ≤ q - y := by grind
  have a4 : 0 ≤ q + y := by grind
  have m1 := Rat.mul_nonneg a1 a3
  have m2 := Rat.mul_nonneg a2 a4
  have m3 := Rat.mul_nonneg a1 a4
  have m4 := Rat.mul_nonneg a2 a3
  constructor <;> grind
theorem gd_mul (h : Gd D n b r) (h' : Gd D m c s) : Gd D (n + m) (b + c) (r * s) := by
  obtain ⟨h1, h2, h3⟩ := h
  obtain ⟨g1, g2, g3⟩ := h'
  have e := abs_mul h2 h3 g2 g3
  refine ⟨by rw [Nat.pow_add]; exact it_mul h1 g1, ?_, ?_⟩
  · rw [Nat.pow_add, Rat.natCast_mul]; exact e.1
  · rw [Nat.pow_add, Rat.natCast_mul]; exact e.2
theorem sum_bd {M : Rat} : ∀ {l : List Rat}, (∀ x ∈ l, -M ≤ x ∧ x ≤ M) → -((l.length : Nat) : Rat) * M ≤ l.sum ∧ l.sum ≤ ((l.length : Nat) : Rat) * M
  | [], _ => by simp
  | a :: l, h => by
    obtain ⟨i1, i2⟩ := sum_bd (l := l) fun x hx => h x (List.mem_cons_of_mem _ hx)
    obtain ⟨j1, j2⟩ := h a List.mem_cons_self
    rw [List.sum_cons, List.length_cons, Rat.natCast_add]
    constructor <;> grind
theorem gd_sum {l : List Rat} (h : ∀ x ∈ l, Gd D n b x) (hl : l.length ≤ 2 ^ c) : Gd D n (b + c) l.sum := by
  obtain ⟨h1, h2⟩ := sum_bd (M := ((2 ^ b : Nat) : Rat)) (l := l) fun x hx => (h x hx).2
  have e : ((l.length : Nat) : Rat) ≤ ((2 ^ c : Nat) : Rat) := by exact_mod_cast hl
  have e0 : (0 : Rat) ≤ ((2 ^ b : Nat) : Rat) := by exact_mod_cast Nat.zero_le _
  have e2 := Rat.mul_le_mul_of_nonneg_right e e0
  refine ⟨it_sum fun x hx => (h x hx).1, ?_, ?_⟩
  · rw [Nat.pow_add, Rat.natCast_mul]; grind
  · rw [Nat.pow_add, Rat.natCast_mul]; grind
theorem gd_fz (h : Gd D n b r) (hD : 0 < D) (hD2 : D ≤ 2 ^ 450) (hn : n ≤ 9) (hb : b ≤ 300) : Fz r := by
  obtain ⟨h1, h2, h3⟩ := h
  have p1 : D ^ n ≤ 2 ^ 4050 := by
    calc D ^ n ≤ (2 ^ 450) ^ n := Nat.pow_le_pow_left hD2 n
      _ = 2 ^ (450 * n) := by rw [← Nat.pow_mul]
      _ ≤ 2 ^ 4050 := Nat.pow_le_pow_right (by decide) (by omega)
  have p2 : 2 ^ b * D ^ n ≤ 2 ^ 300 * 2 ^ 4050 := Nat.mul_le_mul (Nat.pow_le_pow_right (by decide) hb) p1
  rw [← Nat.pow_add] at p2
  have p3 : (2 : Nat) ^ (300 + 4050) < 2 ^ 4400 := Nat.pow_lt_pow_right (by decide) (by decide)
  have p4 : (2 : Nat) ^ 4050 < 2 ^ 4400 := Nat.pow_lt_pow_right (by decide) (by decide)
  exact it_fz h1 (Nat.pow_pos hD) h2 h3 (Nat.lt_of_le_of_lt p2 p3) (Nat.lt_of_le_of_lt p1 p4)
end
/-! ### moments tell the share -/
theorem nw_moms {S O : Shr} : ∀ (cs : List Rat) (j : Nat), (∀ k, k ≤ j + cs.length → mo S k = mo O k) → Ls S (fun x => nw cs x * x ^ j) = Ls O (fun x => nw cs x * x ^ j)
  | [], j, h => by
    have := h j (by simp)
    rw [mo_ls, mo_ls] at this
    rw [ls_congr (g := fun x => x ^ j) (S := S) (fun a _ => by simp [nw, Rat.one_mul]), ls_congr (g := fun x => x ^ j) (S := O) (fun a _ => by simp [nw, Rat.one_mul])]
    exact this
  | c :: cs, j, h => by
    have h1 := nw_moms cs (j + 1) fun k hk => h k (by rw [List.length_cons]; omega)
    have h2 := nw_moms cs j fun k hk => h k (by rw [List.length_cons]; omega)
    have e : ∀ T : Shr, Ls T (fun x => nw (c :: cs) x * x ^ j) = Ls T (fun x => nw cs x * x ^ (j + 1)) - c * Ls T (fun x => nw cs x * x ^ j) := by
      intro T
      rw [← ls_mul, ← ls_sub]
      apply ls_congr
      intro a _
      show (a.1 - c) * nw cs a.1 * a.1 ^ j = _
      rw [Rat.pow_succ]
      grind
    rw [e, e, h1, h2]
theorem nw_moms0 {S O : Shr} (cs : List Rat) (h : ∀ k, k ≤ cs.length → mo S k = mo O k) : Ls S (nw cs) = Ls O (nw cs) := by
  have := nw_moms (S := S) (O := O) cs 0 (by simpa using h)
  rw [ls_congr (g := fun x => nw cs x * x ^ 0) (S := S) (fun a _ => by rw [Rat.pow_zero, Rat.mul_one]), ls_congr (g := fun x => nw cs x * x ^ 0) (S := O) (fun a _ => by rw [Rat.pow_zero, Rat.mul_one])]
  exact this
theorem nw_app : ∀ (cs ds : List Rat) (x : Rat), nw (cs ++ ds) x = nw cs x * nw ds x
  | [], ds, x => by simp [nw, Rat.one_mul]
  | c :: cs, ds, x => by
    show (x - c) * nw (cs ++ ds) x = (x - c) * nw cs x * nw ds x
    rw [nw_app cs ds x]; grind
theorem nodes_sub {S O : Shr} (hS : PosW S) (h : ∀ k, k < S.length + O.length → mo S k = mo O k) : ∀ a ∈ S, a.1 ∈ O.map (·.1) := fun a ha => by
  apply Decidable.byContradiction
  intro hn
  have hm : a.1 ∈ S.map (·.1) := List.mem_map_of_mem ha
  have hl : ((S.map (·.1)).erase a.1).length = S.length - 1 := by rw [List.length_erase_of_mem hm, List.length_map]
  have hp : 0 < S.length := List.length_pos_of_mem ha
  have e := nw_moms0 (S := S) (O := O) ((S.map (·.1)).erase a.1 ++ O.map (·.1)) fun k hk => h k (by rw [List.length_append, hl, List.length_map] at hk; omega)
  have e1 : Ls S (nw ((S.map (·.1)).erase a.1 ++ O.map (·.1))) = a.2 * nw ((S.map (·.1)).erase a.1 ++ O.map (·.1)) a.1 := by
    refine ls_single hS.nd ha fun b hb hne => ?_
    rw [nw_app, nw_zero ((List.mem_erase_of_ne hne).mpr (List.mem_map_of_mem hb)), Rat.zero_mul]
  have e2 : Ls O (nw ((S.map (·.1)).erase a.1 ++ O.map (·.1))) = 0 := by
    refine ls_none fun b hb => ?_
    rw [nw_app, nw_zero (cs := O.map (·.1)) (List.mem_map_of_mem hb), Rat.mul_zero]
  rw [e1, e2] at e
  have hw := hS.w a ha
  have hz : nw ((S.map (·.1)).erase a.1 ++ O.map (·.1)) a.1 ≠ 0 := nw_ne (by
    rw [List.mem_append, not_or]
    exact ⟨List.Nodup.not_mem_erase hS.nd, hn⟩)
  rcases Rat.mul_eq_zero.mp e with e | e
  · grind
  · exact hz e
theorem asc_ext : ∀ {xs ys : List Rat}, xs.Pairwise (· < ·) → ys.Pairwise (· < ·) → (∀ z, z ∈ xs ↔ z ∈ ys) → xs = ys
  | [], [], _, _, _ => rfl
  | [], y :: ys, _, _, h => by have := (h y).mpr List.mem_cons_self; cases this
  | x :: xs, [], _, _, h => by have := (h x).mp List.mem_cons_self; cases this
  | x :: xs, y :: ys, hx, hy, h => by
    rw [List.pairwise_cons] at hx hy
    have exy : x = y := by
      rcases List.mem_cons.mp ((h x).mp List.mem_cons_self) with e | e
      · exact e
      · rcases List.mem_cons.mp ((h y).mpr List.mem_cons_self) with e' | e'
        · exact e'.symm
        · have := hx.1 y e'
          have := hy.1 x e
          grind
    subst exy
    congr 1
    refine asc_ext hx.2 hy.2 fun z => ⟨fun hz => ?_, fun hz => ?_⟩
    · rcases List.mem_cons.mp ((h z).mp (List.mem_cons_of_mem _ hz)) with e | e
      · have := hx.1 z hz
        grind
      · exact e
    · rcases List.mem_cons.mp ((h z).mpr (List.mem_cons_of_mem _ hz)) with e | e
      · have := hy.1 z hz
        grind
      · exact e
theorem asc_nodup {xs : List Rat} (h : xs.Pairwise (· < ·)) : xs.Nodup := h.imp fun {a b} h e => by grind
theorem pairs_ext : ∀ {S O : Shr}, S.map (·.1) = O.map (·.1) → (∀ a ∈ S, ∀ b ∈ O, a.1 = b.1 → a.2 = b.2) → S = O
  | [], [], _, _ => rfl
  | [], b :: O, h, _ => by simp at h
  | a :: S, [], h, _ => by simp at h
  | a :: S, b :: O, h, w => by
    rw [List.map_cons, List.map_cons] at h
    have h1 := (List.cons.inj h).1
    have h2 := w a List.mem_cons_self b List.mem_cons_self h1
    rw [pairs_ext (List.cons.inj h).2 fun a ha b hb => w a (List.mem_cons_of_mem _ ha) b (List.mem_cons_of_mem _ hb), Prod.ext h1 h2]
theorem share_ext {S O : Shr} (hS : (S.map (·.1)).Pairwise (· < ·)) (hO : (O.map (·.1)).Pairwise (· < ·)) (wS : ∀ a ∈ S, 0 < a.2) (wO : ∀ a ∈ O, 0 < a.2) (h : ∀ k, k < S.length + O.length → mo S k = mo O k) : S = O := by
  have pS : PosW S := ⟨asc_nodup hS, wS⟩
  have pO : PosW O := ⟨asc_nodup hO, wO⟩
  have n1 := nodes_sub pS h
  have n2 := nodes_sub pO (O := S) fun k hk => (h k (by omega)).symm
  have en : S.map (·.1) = O.map (·.1) := asc_ext hS hO fun z => ⟨fun hz => by
    obtain ⟨a, ha, rfl⟩ := List.mem_map.mp hz
    exact n1 a ha, fun hz => by
    obtain ⟨a, ha, rfl⟩ := List.mem_map.mp hz
    exact n2 a ha⟩
  refine pairs_ext en fun a ha b hb eab => ?_
  have hm : a.1 ∈ S.map (·.1) := List.mem_map_of_mem ha
  have hl : ((S.map (·.1)).erase a.1).length = S.length - 1 := by rw [List.length_erase_of_mem hm, List.length_map]
  have hp : 0 < S.length := List.length_pos_of_mem ha
  have e := nw_moms0 (S := S) (O := O) ((S.map (·.1)).erase a.1) fun k hk => h k (by omega)
  have e1 : Ls S (nw ((S.map (·.1)).erase a.1)) = a.2 * nw ((S.map (·.1)).erase a.1) a.1 := ls_single pS.nd ha fun c hc hne => nw_zero ((List.mem_erase_of_ne hne).mpr (List.mem_map_of_mem hc))
  have e2 : Ls O (nw ((S.map (·.1)).erase a.1)) = b.2 * nw ((S.map (·.1)).erase a.1) b.1 := ls_single pO.nd hb fun c hc hne => nw_zero ((List.mem_erase_of_ne (by rw [eab]; exact hne)).mpr (by rw [en]; exact List.mem_map_of_mem hc))
  have hz : nw ((S.map (·.1)).erase a.1) a.1 ≠ 0 := nw_ne (List.Nodup.not_mem_erase pS.nd)
  rw [e1, e2, ← eab] at e
  have e3 : (a.2 - b.2) * nw ((S.map (·.1)).erase a.1) a.1 = 0 := by grind
  rcases Rat.mul_eq_zero.mp e3 with e3 | e3
  · grind
  · exact absurd e3 hz
end RS

set_option Elab.async false
set_option exponentiation.threshold 5000
/-! Plain: the sizes of a share's rungs. -/
namespace RS
structure Hf (S : Shr) : Prop where
  p : PosW S
  x : ∀ a ∈ S, It 2 a.1
  x1 : ∀ a ∈ S, -4 ≤ a.1
  x2 : ∀ a ∈ S, a.1 ≤ 4
  w : ∀ a ∈ S, It 2 a.2
  w2 : ∀ a ∈ S, a.2 ≤ 4
  l1 : 1 ≤ S.length
  l3 : S.length ≤ 3
theorem ls_mono : ∀ {S : Shr} {f g : Rat → Rat}, (∀ a ∈ S, 0 < a.2) → (∀ a ∈ S, f a.1 ≤ g a.1) → Ls S f ≤ Ls S g
  | [], f, g, _, _ => Rat.le_refl
  | a :: S, f, g, hw, h => by
    have ih := ls_mono (S := S) (f := f) (g := g) (fun b hb => hw b (List.mem_cons_of_mem _ hb)) fun b hb => h b (List.mem_cons_of_mem _ hb)
    have h1 := h a List.mem_cons_self
    have h0 := hw a List.mem_cons_self
    have h2 : 0 ≤ a.2 * (g a.1 - f a.1) := Rat.mul_nonneg (Rat.le_of_lt h0) (by grind)
    rw [ls_cons, ls_cons]
    grind
section
variable {S : Shr} (h : Hf S)
include h
theorem hk_ne {k : Nat} (hk : k < S.length) : Hk S k ≠ 0 := fun e => by have := hk_pos h.p hk; grind
theorem ak_bd {k : Nat} (hk : k < S.length) : -4 ≤ Ak S k ∧ Ak S k ≤ 4 := by
  have hp := hk_pos h.p hk
  have e := ak_mul S k (hk_ne h hk)
  have u : Ls S (fun x => x * (vv S k x * vv S k x)) ≤ Ls S (fun x => 4 * (vv S k x * vv S k x)) := ls_mono h.p.w fun a ha => by
    have h1 := h.x2 a ha
    have h2 : 0 ≤ (4 - a.1) * (vv S k a.1 * vv S k a.1) := Rat.mul_nonneg (by grind) (sq_nonneg _)
    grind
  have l : Ls S (fun x => -4 * (vv S k x * vv S k x)) ≤ Ls S (fun x => x * (vv S k x * vv S k x)) := ls_mono h.p.w fun a ha => by
    have h1 := h.x1 a ha
    have h2 : 0 ≤ (a.1 + 4) * (vv S k a.1 * vv S k a.1) := Rat.mul_nonneg (by grind) (sq_nonneg _)
    grind
  rw [ls_mul, ← hk_eq, ← e] at u l
  constructor
  · apply Decidable.byContradiction
    intro hn
    have : 0 < (-4 - Ak S k) * Hk S k := Rat.mul_pos (by grind) hp
    grind
  · apply Decidable.byContradiction
    intro hn
    have : 0 < (Ak S k - 4) * Hk S k := Rat.mul_pos (by grind) hp
    grind
theorem hk_step {k : Nat} (hk : k < S.length) : Hk S (k + 1) ≤ 16 * Hk S k := by
  have hz : ∀ j, j < k + 1 → Hk S j ≠ 0 := fun j hj => hk_ne h (by omega)
  have e1 : ip S (fun x => x * vv S k x) (vv S (k + 1)) = Hk S (k + 1) := by
    rw [ip_x, orth S (k + 1) hz k (k + 1) (by omega) (Nat.le_refl _)]
    have hb : Bk (Hk S) k * ip S (vv S (k - 1)) (vv S (k + 1)) = 0 := by
      cases k with
      | zero => rw [bk_zero, Rat.zero_mul]
      | succ k => rw [show k + 1 - 1 = k by omega, orth S (k + 1 + 1) hz k (k + 1 + 1) (by omega) (Nat.le_refl _), Rat.mul_zero]
    rw [hb]
    show Hk S (k + 1) + _ + 0 = _
    grind
  have e2 : 0 ≤ Ls S (fun x => (x * vv S k x - vv S (k + 1) x) * (x * vv S k x - vv S (k + 1) x)) := ls_nonneg h.p.w fun a _ => sq_nonneg _
  have e3 : Ls S (fun x => (x * vv S k x - vv S (k + 1) x) * (x * vv S k x - vv S (k + 1) x)) = Ls S (fun x => x * x * (vv S k x * vv S k x)) - 2 * ip S (fun x => x * vv S k x) (vv S (k + 1)) + Hk S (k + 1) := by
    unfold ip
    rw [hk_eq, ← ls_mul, ← ls_sub, ← ls_add]
    exact ls_congr fun a _ => by grind
  have e4 : Ls S (fun x => x * x * (vv S k x * vv S k x)) ≤ Ls S (fun x => 16 * (vv S k x * vv S k x)) := ls_mono h.p.w fun a ha => by
    have h1 := h.x1 a ha
    have h2 := h.x2 a ha
    have h3 : 0 ≤ (4 - a.1) * (4 + a.1) := Rat.mul_nonneg (by grind) (by grind)
    have h4 : 0 ≤ ((4 - a.1) * (4 + a.1)) * (vv S k a.1 * vv S k a.1) := Rat.mul_nonneg h3 (sq_nonneg _)
    grind
  rw [ls_mul, ← hk_eq] at e4
  rw [e3, e1] at e2
  grind
theorem hk0_bd : Hk S 0 ≤ 12 := by
  have : ∀ (T : Shr), (∀ a ∈ T, a.2 ≤ 4) → Ls T (fun x => vv S 0 x * vv S 0 x) ≤ 4 * ((T.length : Nat) : Rat) := by
    intro T
    induction T with
    | nil => intro _; rw [ls_nil]; simp
    | cons a T ih =>
      intro hT
      have h1 := ih fun b hb => hT b (List.mem_cons_of_mem _ hb)
      have h2 := hT a List.mem_cons_self
      rw [ls_cons, List.length_cons, vv_zero, Rat.natCast_add]
      grind
  have h1 := this S h.w2
  have h2 : ((S.length : Nat) : Rat) ≤ ((3 : Nat) : Rat) := by have := h.l3; exact_mod_cast this
  have h3 : ((3 : Nat) : Rat) = 3 := rfl
  rw [hk_eq]
  grind
theorem hk_bd : ∀ k, k ≤ S.length → Hk S k ≤ ((12 * 16 ^ k : Nat) : Rat)
  | 0, _ => by
    have := hk0_bd h
    simpa using this
  | k + 1, hk => by
    have h1 := hk_bd k (by omega)
    have h2 := hk_step h (k := k) (by omega)
    have e : ((12 * 16 ^ (k + 1) : Nat) : Rat) = 16 * ((12 * 16 ^ k : Nat) : Rat) := by
      rw [show 12 * 16 ^ (k + 1) = 16 * (12 * 16 ^ k) by rw [Nat.pow_succ]; omega, Rat.natCast_mul]
      rfl
    rw [e]
    grind
theorem bk_bd {k : Nat} (hk : k ≤ S.length) : 0 ≤ Bk (Hk S) k ∧ Bk (Hk S) k ≤ 16 := by
  cases k with
  | zero => rw [bk_zero]; exact ⟨by decide, by decide⟩
  | succ k =>
    have hp := hk_pos h.p (k := k) (by omega)
    have e := bk_mul S k (hk_ne h (by omega))
    have n := hk_nonneg h.p (k + 1)
    have s := hk_step h (k := k) (by omega)
    constructor
    · apply Decidable.byContradiction
      intro hn
      have : 0 < (0 - Bk (Hk S) (k + 1)) * Hk S k := Rat.mul_pos (by grind) hp
      grind
    · apply Decidable.byContradiction
      intro hn
      have : 0 < (Bk (Hk S) (k + 1) - 16) * Hk S k := Rat.mul_pos (by grind) hp
      grind
theorem co_step (k i : Nat) : co (Pk S (k + 1)) i = (if i < 1 then 0 else co (Pk S k) (i - 1)) - co (Pk S k) i * Ak S k - co (Qk (Pk S) k) i * Bk (Hk S) k := by
  rw [pk_succ, nxt, co_psub, co_psub, co_pshf, co_ptim, co_ptim]
theorem co_bd : ∀ k, k ≤ S.length → (∀ i, -((32 ^ k : Nat) : Rat) ≤ co (Pk S k) i ∧ co (Pk S k) i ≤ ((32 ^ k : Nat) : Rat)) ∧ ∀ i, -((32 ^ k : Nat) : Rat) ≤ co (Qk (Pk S) k) i ∧ co (Qk (Pk S) k) i ≤ ((32 ^ k : Nat) : Rat)
  | 0, _ => by
    constructor
    · intro i
      cases i with
      | zero =>
        have e : co (Pk S 0) 0 = 1 := rfl
        rw [e]
        exact ⟨by decide, by decide⟩
      | succ i => rw [co_out (by show 1 ≤ i + 1; omega)]; exact ⟨by decide, by decide⟩
    · intro i
      rw [co_out (by show 0 ≤ i; omega)]
      exact ⟨by decide, by decide⟩
  | k + 1, hk => by
    obtain ⟨p1, q1⟩ := co_bd k (by omega)
    have a := ak_bd h (k := k) (by omega)
    have b := bk_bd h (k := k) (by omega)
    have e : ((32 ^ (k + 1) : Nat) : Rat) = 32 * ((32 ^ k : Nat) : Rat) := by
      rw [Nat.pow_succ, Nat.mul_comm, Rat.natCast_mul]; rfl
    have e0 : (0 : Rat) ≤ ((32 ^ k : Nat) : Rat) := by exact_mod_cast Nat.zero_le _
    constructor
    · intro i
      rw [co_step h, e]
      have m1 := abs_mul (p1 i).1 (p1 i).2 a.1 a.2
      have m2 := abs_mul (q1 i).1 (q1 i).2 (q := 16) (by grind) b.2
      have m3 : -((32 ^ k : Nat) : Rat) ≤ (if i < 1 then 0 else co (Pk S k) (i - 1)) ∧ (if i < 1 then 0 else co (Pk S k) (i - 1)) ≤ ((32 ^ k : Nat) : Rat) := by
        split
        · exact ⟨by grind, e0⟩
        · exact p1 _
      constructor <;> grind
    · intro i
      rw [e]
      have := p1 i
      show -(32 * _) ≤ co (Pk S k) i ∧ co (Pk S k) i ≤ _
      constructor <;> grind
end
end RS

set_option Elab.async false
set_option exponentiation.threshold 5000
/-! Plain: one denominator for all. -/
namespace RS
theorem it_co {D : Nat} {p : List Rat} (h : ∀ i, It D (co p i)) : ∀ x ∈ p, It D x := fun x hx => by
  obtain ⟨i, hi⟩ := List.getElem?_of_mem hx
  rw [← co_get hi]
  exact h i
theorem it_horner {D E : Nat} {x : Rat} (hx : It E x) : ∀ {p : List Rat}, (∀ y ∈ p, It D y) → It (D * E ^ p.length) (horner p x)
  | [], _ => it_zero _
  | a :: p, h => by
    have ih := it_horner hx (p := p) fun y hy => h y (List.mem_cons_of_mem _ hy)
    show It _ (horner p x * x + a)
    refine it_add ?_ (it_dvd (h a List.mem_cons_self) (Nat.dvd_mul_right _ _))
    have := it_mul ih hx
    rw [Nat.mul_assoc, ← Nat.pow_succ] at this
    exact this
theorem it_ls {E : Nat} : ∀ {S : Shr} {f : Rat → Rat}, (∀ a ∈ S, It E (a.2 * f a.1)) → It E (Ls S f)
  | [], _, _ => it_zero _
  | a :: S, f, h => by
    rw [ls_cons]
    exact it_add (h a List.mem_cons_self) (it_ls fun b hb => h b (List.mem_cons_of_mem _ hb))
theorem it_pos {E : Nat} {r : Rat} (h : It E r) (hE : 0 < E) (hr : 0 < r) : ∃ n : Nat, 0 < n ∧ r * (E : Rat) = (n : Rat) := by
  obtain ⟨a, ha⟩ := h
  have h1 : (0 : Rat) < (a : Rat) := by
    rw [← ha]
    exact Rat.mul_pos hr (by exact_mod_cast hE)
  have h2 : 0 < a := by exact_mod_cast h1
  refine ⟨a.toNat, by omega, ?_⟩
  rw [ha]
  have : ((a.toNat : Nat) : Int) = a := by omega
  rw [← Rat.intCast_natCast, this]
/-- the denominators: D of the coefficients of the k-th rung and the one ahead; g of the square sum ahead -/
structure Dn (S : Shr) (k D g : Nat) (d e : Nat) : Prop where
  D0 : 0 < D
  g0 : 0 < g
  c : ∀ i, It D (co (Pk S k) i)
  q : ∀ i, It D (co (Qk (Pk S) k) i)
  Db : D ≤ 2 ^ d
  gb : g ≤ 2 ^ e
  gk : k ≠ 0 → ∃ E : Nat, 0 < E ∧ Hk S (k - 1) * (E : Rat) = (g : Rat)
  bk : k < S.length → It (2 * (D * 2 ^ (k + 1) * (D * 2 ^ (k + 1))) * g) (Bk (Hk S) k)
section
variable {S : Shr} (h : Hf S)
include h
theorem it_vv {k D : Nat} (hc : ∀ i, It D (co (Pk S k) i)) : ∀ a ∈ S, It (D * 2 ^ (k + 1)) (vv S k a.1) := fun a ha => by
  have := it_horner (h.x a ha) (it_co hc)
  rw [(pk_monic S k).2.1] at this
  exact this
theorem it_hk {k D : Nat} (hc : ∀ i, It D (co (Pk S k) i)) : It (2 * (D * 2 ^ (k + 1) * (D * 2 ^ (k + 1)))) (Hk S k) := by
  rw [hk_eq]
  exact it_ls fun a ha => it_mul (h.w a ha) (it_mul (it_vv h hc a ha) (it_vv h hc a ha))
theorem it_nk {k D : Nat} (hc : ∀ i, It D (co (Pk S k) i)) : It (2 * (2 * (D * 2 ^ (k + 1) * (D * 2 ^ (k + 1))))) (Ls S fun x => x * (vv S k x * vv S k x)) :=
  it_ls fun a ha => it_mul (h.w a ha) (it_mul (h.x a ha) (it_mul (it_vv h hc a ha) (it_vv h hc a ha)))
theorem dn_zero : Dn S 0 1 1 0 0 where
  D0 := by decide
  g0 := by decide
  c := fun i => by
    cases i with
    | zero => exact it_int 1 1
    | succ i => rw [co_out (by show 1 ≤ i + 1; omega)]; exact it_zero _
  q := fun i => by rw [co_out (by show 0 ≤ i; omega)]; exact it_zero _
  Db := by decide
  gb := by decide
  gk := fun z => absurd rfl z
  bk := fun _ => it_zero _
theorem dn_succ {k D g d e : Nat} (hd : Dn S k D g d e) (hk : k < S.length) : ∃ f : Nat, 0 < f ∧ It (2 * f) (Ak S k) ∧ It (2 * (D * 2 ^ (k + 1) * (D * 2 ^ (k + 1)))) (Hk S k) ∧
    Dn S (k + 1) (2 * f * g * D * (D * 2 ^ (k + 1) * (D * 2 ^ (k + 1)))) f (1 + (7 + 6 * k + 2 * d) + e + d + (2 * d + 2 * (k + 1))) (7 + 6 * k + 2 * d) := by
  obtain ⟨E, hE⟩ : ∃ E : Nat, D * 2 ^ (k + 1) = E := ⟨_, rfl⟩
  have hE0 : 0 < E := by rw [← hE]; exact Nat.mul_pos hd.D0 (Nat.two_pow_pos _)
  have hEb : E ≤ 2 ^ (d + (k + 1)) := by rw [← hE, Nat.pow_add 2 d (k + 1)]; exact Nat.mul_le_mul hd.Db (Nat.le_refl _)
  have iH := it_hk h hd.c
  have iN := it_nk h hd.c
  have hbk := hd.bk hk
  rw [hE] at iH iN hbk ⊢
  have hp := hk_pos h.p hk
  obtain ⟨f, f0, hf⟩ := it_pos iH (Nat.mul_pos (by decide) (Nat.mul_pos hE0 hE0)) hp
  have fE : (f : Rat) ≠ 0 := by
    have : (0 : Rat) < (f : Rat) := by exact_mod_cast f0
    grind
  have EE : ((2 * (E * E) : Nat) : Rat) ≠ 0 := by
    have : (0 : Rat) < ((2 * (E * E) : Nat) : Rat) := by exact_mod_cast Nat.mul_pos (by decide) (Nat.mul_pos hE0 hE0)
    grind
  have iA : It (2 * f) (Ak S k) := by
    obtain ⟨n, hn⟩ := iN
    refine ⟨n, ?_⟩
    have e1 := ak_mul S k (hk_ne h hk)
    rw [← hn, ← e1, Rat.natCast_mul, Rat.natCast_mul 2 (2 * (E * E)), ← hf]
    grind
  have fb : f ≤ 2 ^ (7 + 6 * k + 2 * d) := by
    have b1 := hk_bd h k (by omega)
    have b0 : (0 : Rat) ≤ ((2 * (E * E) : Nat) : Rat) := by exact_mod_cast Nat.zero_le _
    have b2 := Rat.mul_le_mul_of_nonneg_right b1 b0
    rw [hf, ← Rat.natCast_mul] at b2
    have b3 : f ≤ 12 * 16 ^ k * (2 * (E * E)) := by exact_mod_cast b2
    have b4 : E * E ≤ 2 ^ (d + (k + 1)) * 2 ^ (d + (k + 1)) := Nat.mul_le_mul hEb hEb
    have b5 : 12 * 16 ^ k * (2 * (E * E)) ≤ 2 ^ 4 * 2 ^ (4 * k) * (2 * (2 ^ (d + (k + 1)) * 2 ^ (d + (k + 1)))) := by
      refine Nat.mul_le_mul (Nat.mul_le_mul (by decide) ?_) (Nat.mul_le_mul (Nat.le_refl _) b4)
      rw [Nat.pow_mul]; exact Nat.le_refl _
    have b6 : 2 ^ 4 * 2 ^ (4 * k) * (2 * (2 ^ (d + (k + 1)) * 2 ^ (d + (k + 1)))) = 2 ^ (7 + 6 * k + 2 * d) := by
      rw [← Nat.pow_add, ← Nat.pow_add, ← Nat.pow_succ', ← Nat.pow_add]
      congr 1
      omega
    omega
  have hc' : ∀ i, It (2 * f * g * D * (E * E)) (co (Pk S (k + 1)) i) := by
    intro i
    rw [co_step h]
    refine it_sub (it_sub ?_ ?_) ?_
    · refine it_dvd (D := D) ?_ ⟨2 * f * g * (E * E), by grind⟩
      split
      · exact it_zero _
      · exact hd.c _
    · exact it_dvd (it_mul (hd.c i) iA) ⟨g * (E * E), by grind⟩
    · exact it_dvd (it_mul (hd.q i) hbk) ⟨f, by grind⟩
  refine ⟨f, f0, iA, iH, ?_, f0, hc', ?_, ?_, fb, ?_, ?_⟩
  · exact Nat.mul_pos (Nat.mul_pos (Nat.mul_pos (Nat.mul_pos (by decide) f0) hd.g0) hd.D0) (Nat.mul_pos hE0 hE0)
  · intro i
    exact it_dvd (hd.c i) ⟨2 * f * g * (E * E), by grind⟩
  · have e1 : E * E ≤ 2 ^ (2 * d + 2 * (k + 1)) := by
      have := Nat.mul_le_mul hEb hEb
      rw [← Nat.pow_add] at this
      rw [show 2 * d + 2 * (k + 1) = d + (k + 1) + (d + (k + 1)) by omega]
      exact this
    rw [Nat.pow_add, Nat.pow_add, Nat.pow_add, Nat.pow_add]
    exact Nat.mul_le_mul (Nat.mul_le_mul (Nat.mul_le_mul (Nat.mul_le_mul (by decide) fb) hd.gb) hd.Db) e1
  · intro _
    exact ⟨2 * (E * E), Nat.mul_pos (by decide) (Nat.mul_pos hE0 hE0), hf⟩
  · intro hk1
    obtain ⟨n, hn⟩ := it_hk h (k := k + 1) hc'
    refine ⟨n * ((2 * (E * E) : Nat) : Int), ?_⟩
    have e1 := bk_mul S k (hk_ne h hk)
    rw [Rat.intCast_mul, ← hn, ← e1, Rat.intCast_natCast, Rat.natCast_mul _ f, ← hf]
    grind
end
end RS

set_option Elab.async false
set_option exponentiation.threshold 5000
/-! Plain: one denominator for a share. -/
namespace RS
def de : Nat → Nat × Nat
  | 0 => (0, 0)
  | k + 1 => (1 + (7 + 6 * k + 2 * (de k).1) + (de k).2 + (de k).1 + (2 * (de k).1 + 2 * (k + 1)), 7 + 6 * k + 2 * (de k).1)
structure Ch (S : Shr) (n D : Nat) : Prop where
  dn : ∃ g, Dn S n D g (de n).1 (de n).2
  c : ∀ k, k ≤ n → ∀ i, It D (co (Pk S k) i)
  a : ∀ k, k < n → It D (Ak S k)
  b : ∀ k, k < n → It D (Bk (Hk S) k)
  h : ∀ k, k < n → It D (Hk S k)
theorem chain {S : Shr} (h : Hf S) : ∀ n, n ≤ S.length → ∃ D, Ch S n D
  | 0, _ => ⟨1, ⟨1, dn_zero h⟩, fun k hk i => by
      have : k = 0 := by omega
      subst this
      exact (dn_zero h).c i, fun k hk => by omega, fun k hk => by omega, fun k hk => by omega⟩
  | n + 1, hn => by
    obtain ⟨D, C⟩ := chain h n (by omega)
    obtain ⟨g, hd⟩ := C.dn
    have hbk := hd.bk (by omega)
    obtain ⟨f, f0, iA, iH, hd'⟩ := dn_succ h hd (show n < S.length by omega)
    obtain ⟨E, hE⟩ : ∃ E : Nat, D * 2 ^ (n + 1) = E := ⟨_, rfl⟩
    rw [hE] at iH hd' hbk
    have dv : D ∣ 2 * f * g * D * (E * E) := ⟨2 * f * g * (E * E), by grind⟩
    refine ⟨2 * f * g * D * (E * E), ⟨f, hd'⟩, fun k hk i => ?_, fun k hk => ?_, fun k hk => ?_, fun k hk => ?_⟩
    · by_cases e : k = n + 1
      · subst e; exact hd'.c i
      · exact it_dvd (C.c k (by omega) i) dv
    · by_cases e : k = n
      · subst e; exact it_dvd iA ⟨g * D * (E * E), by grind⟩
      · exact it_dvd (C.a k (by omega)) dv
    · by_cases e : k = n
      · subst e; exact it_dvd hbk ⟨f * D, by grind⟩
      · exact it_dvd (C.b k (by omega)) dv
    · by_cases e : k = n
      · subst e; exact it_dvd iH ⟨f * g * D, by grind⟩
      · exact it_dvd (C.h k (by omega)) dv
theorem gd_of {D b : Nat} {r : Rat} (h : It D r) (h1 : -((2 ^ b : Nat) : Rat) ≤ r) (h2 : r ≤ ((2 ^ b : Nat) : Rat)) : Gd D 1 b r := ⟨by rw [Nat.pow_one]; exact h, h1, h2⟩
theorem gd_pow {x : Rat} (h : Gd 2 1 2 x) : ∀ k, Gd 2 k (2 * k) (x ^ k)
  | 0 => by rw [Rat.pow_zero]; exact ⟨it_int _ 1, by decide, by decide⟩
  | k + 1 => by
    rw [Rat.pow_succ]
    exact gd_mul (gd_pow h k) h
structure Bs (S : Shr) (D : Nat) : Prop where
  D0 : 0 < D
  Db : D ≤ 2 ^ 450
  c : ∀ k, k ≤ S.length → ∀ i, Gd D 1 16 (co (Pk S k) i)
  q : ∀ k, k ≤ S.length → ∀ i, Gd D 1 16 (co (Qk (Pk S) k) i)
  a : ∀ k, k < S.length → Gd D 1 16 (Ak S k)
  b : ∀ k, k ≤ S.length → Gd D 1 16 (Bk (Hk S) k)
  h : ∀ k, k ≤ S.length → Gd D 1 16 (Hk S k)
  m : ∀ k, k ≤ 8 → Gd D 1 20 (mo S k)
  x : ∀ a ∈ S, Gd D 1 3 a.1
  y : ∀ a ∈ S, Gd D 1 3 (a.1 + 1 / 7)
section
variable {S : Shr} (h : Hf S)
include h
theorem gx2 : ∀ a ∈ S, Gd 2 1 2 a.1 := fun a ha => gd_of (h.x a ha) (by have := h.x1 a ha; exact this) (by have := h.x2 a ha; exact this)
theorem gw2 : ∀ a ∈ S, Gd 2 1 2 a.2 := fun a ha => gd_of (h.w a ha) (by have := h.p.w a ha; have e : ((2 ^ 2 : Nat) : Rat) = 4 := rfl; rw [e]; grind) (by have := h.w2 a ha; exact this)
theorem gt2 : ∀ a ∈ S, ∀ k, k ≤ 8 → Gd 2 9 18 (a.2 * a.1 ^ k) := fun a ha k hk => gd_mono (gd_mul (gw2 h a ha) (gd_pow (gx2 h a ha) k)) (by omega) (by omega)
theorem gs2 (k j : Nat) (hk : k ≤ 8) : Gd 2 9 20 ((S.map fun xw => xw.2 * xw.1 ^ k).take j).sum := by
  refine gd_sum (n := 9) (b := 18) (c := 2) (fun x hx => ?_) ?_
  · obtain ⟨a, ha, rfl⟩ := List.mem_map.mp (List.mem_of_mem_take hx)
    exact gt2 h a ha k hk
  · have := h.l3
    rw [List.length_take, List.length_map]
    show _ ≤ 4
    omega
theorem gm2 (k : Nat) (hk : k ≤ 8) : Gd 2 9 20 (mo S k) := by
  have := gs2 h k S.length hk
  rw [List.take_of_length_le (by simp)] at this
  exact this
theorem base_ok : ∃ D, Bs S D := by
  obtain ⟨D, C⟩ := chain h S.length (Nat.le_refl _)
  obtain ⟨g, hd⟩ := C.dn
  have l1 := h.l1
  have l3 := h.l3
  have hD : D ≤ 2 ^ 434 := by
    have h1 := hd.Db
    have h2 : (de S.length).1 ≤ 434 := by
      rcases (by omega : S.length = 1 ∨ S.length = 2 ∨ S.length = 3) with e | e | e <;> rw [e] <;> decide
    exact Nat.le_trans h1 (Nat.pow_le_pow_right (by decide) h2)
  have dD : D ∣ D * (2 ^ 9 * 7) := Nat.dvd_mul_right _ _
  have d9 : 2 ^ 9 ∣ D * (2 ^ 9 * 7) := ⟨D * 7, by grind⟩
  have d2 : 2 ∣ D * (2 ^ 9 * 7) := ⟨D * (2 ^ 8 * 7), by grind⟩
  have d14 : 2 * 7 ∣ D * (2 ^ 9 * 7) := ⟨D * 2 ^ 8, by grind⟩
  have hb := hk_end h.p
  have p3 : ∀ k, k ≤ S.length → ((32 ^ k : Nat) : Rat) ≤ ((2 ^ 16 : Nat) : Rat) := fun k hk => by
    have e : 32 ^ k ≤ 2 ^ 16 := by
      rw [show (32 : Nat) = 2 ^ 5 by decide, ← Nat.pow_mul]
      exact Nat.pow_le_pow_right (by decide) (by omega)
    exact_mod_cast e
  have c16 : ((2 ^ 16 : Nat) : Rat) = 65536 := rfl
  refine ⟨D * (2 ^ 9 * 7), Nat.mul_pos hd.D0 (by decide), ?_, fun k hk i => ?_, fun k hk i => ?_, fun k hk => ?_, fun k hk => ?_, fun k hk => ?_, fun k hk => ?_, fun a ha => ?_, fun a ha => ?_⟩
  · have := Nat.mul_le_mul hD (show 2 ^ 9 * 7 ≤ 2 ^ 12 by decide)
    rw [← Nat.pow_add] at this
    exact Nat.le_trans this (Nat.pow_le_pow_right (by decide) (by decide))
  · have e := (co_bd h k hk).1 i
    have := p3 k hk
    exact gd_of (it_dvd (C.c k hk i) dD) (by grind) (by grind)
  · have e := (co_bd h k hk).2 i
    have := p3 k hk
    refine gd_of (it_dvd ?_ dD) (by grind) (by grind)
    cases k with
    | zero => rw [co_out (by show 0 ≤ i; omega)]; exact it_zero _
    | succ k => exact C.c k (by omega) i
  · have e := ak_bd h hk
    exact gd_of (it_dvd (C.a k hk) dD) (by rw [c16]; grind) (by rw [c16]; grind)
  · have e := bk_bd h hk
    refine gd_of (it_dvd ?_ dD) (by rw [c16]; grind) (by rw [c16]; grind)
    by_cases e : k = S.length
    · subst e
      have z : Bk (Hk S) S.length = 0 := by
        unfold Bk
        rw [if_neg (by omega), hb]
        grind
      rw [z]; exact it_zero _
    · exact C.b k (by omega)
  · have e := hk_bd h k hk
    have e0 := hk_nonneg h.p k
    have e2 : ((12 * 16 ^ k : Nat) : Rat) ≤ ((2 ^ 16 : Nat) : Rat) := by
      have e : 12 * 16 ^ k ≤ 2 ^ 16 := by
        have : 16 ^ k ≤ 16 ^ 3 := Nat.pow_le_pow_right (by decide) (by omega)
        omega
      exact_mod_cast e
    refine gd_of (it_dvd ?_ dD) (by rw [c16]; grind) (by grind)
    by_cases e : k = S.length
    · subst e; rw [hb]; exact it_zero _
    · exact C.h k (by omega)
  · obtain ⟨g1, g2, g3⟩ := gm2 h k hk
    exact gd_of (it_dvd g1 d9) g2 g3
  · obtain ⟨g1, g2, g3⟩ := gd_mono (gx2 h a ha) (Nat.le_refl 1) (show 2 ≤ 3 by decide)
    exact gd_of (it_dvd (h.x a ha) d2) g2 g3
  · have i7 : It 7 (1 / 7) := ⟨1, by decide +kernel⟩
    have e1 := h.x1 a ha
    have e2 := h.x2 a ha
    have c3 : ((2 ^ 3 : Nat) : Rat) = 8 := rfl
    refine gd_of (it_add (it_dvd (h.x a ha) d2) (it_dvd i7 ⟨D * 2 ^ 9, by grind⟩)) ?_ ?_
    · rw [c3]; grind
    · rw [c3]; grind
end
end RS

set_option Elab.async false
set_option exponentiation.threshold 5000
/-! Plain: the size facts of the defs. -/
namespace RS
section
variable {S : Shr} {D : Nat} (B : Bs S D)
include B
theorem fz1 {r : Rat} {n b : Nat} (h : Gd D n b r) (hn : n ≤ 9 := by decide) (hb : b ≤ 300 := by decide) : Fz r := gd_fz h B.D0 B.Db hn hb
theorem gd_mem {p : List Rat} {n b : Nat} (h : ∀ i, Gd D n b (co p i)) : ∀ x ∈ p, Gd D n b x := fun x hx => by
  obtain ⟨i, hi⟩ := List.getElem?_of_mem hx
  rw [← co_get hi]
  exact h i
theorem gd_shf {p : List Rat} {n b : Nat} (h : ∀ i, Gd D n b (co p i)) (k i : Nat) : Gd D n b (co (pshf p k) i) := by
  rw [co_pshf]
  split
  · exact gd_zero _ _ _
  · exact h _
theorem mem_zw : ∀ {p row : List Rat} {x : Rat}, x ∈ List.zipWith (fun a b => a * b) p row → ∃ a ∈ p, ∃ b ∈ row, x = a * b
  | [], row, x, h => by simp at h
  | a :: p, [], x, h => by simp at h
  | a :: p, b :: row, x, h => by
    rw [List.zipWith_cons_cons] at h
    rcases List.mem_cons.mp h with rfl | h
    · exact ⟨a, List.mem_cons_self, b, List.mem_cons_self, rfl⟩
    · obtain ⟨c, hc, d, hd, e⟩ := mem_zw h
      exact ⟨c, List.mem_cons_of_mem _ hc, d, List.mem_cons_of_mem _ hd, e⟩
theorem row_gd {n : Nat} (hn : n ≤ 8) : ∀ x ∈ moms S n, Gd D 1 20 x := fun x hx => by
  obtain ⟨k, hk, rfl⟩ := List.mem_map.mp hx
  exact B.m k (by have := List.mem_range.mp hk; omega)
theorem sf_ok {p : List Rat} {n m b : Nat} (hn : n ≤ 8) (h : ∀ i, Gd D m b (co p i)) (hm : m ≤ 8) (hb : b ≤ 200) (hl : p.length ≤ 16) : SfOk (moms S n) p ∧ Fz (dot p (moms S n)) := by
  have z : ∀ x ∈ List.zipWith (fun a b => a * b) p (moms S n), Gd D (m + 1) (b + 20) x := fun x hx => by
    obtain ⟨u, hu, v, hv, rfl⟩ := mem_zw B hx
    exact gd_mul (gd_mem B h u hu) (row_gd B hn v hv)
  have hs : ∀ k, Gd D (m + 1) (b + 20 + 4) ((List.zipWith (fun a b => a * b) p (moms S n)).take k).sum := fun k =>
    gd_sum (fun x hx => z x (List.mem_of_mem_take hx)) (by rw [List.length_take, List.length_zipWith]; show _ ≤ 16; omega)
  refine ⟨⟨fun x hx => fz1 B (row_gd B hn x hx), fun x hx => fz1 B (gd_mem B h x hx) (by omega) (by omega), fun x hx => fz1 B (z x hx) (by omega) (by omega), fun k => fz1 B (hs k) (by omega) (by omega), by omega⟩, ?_⟩
  have := hs (List.zipWith (fun a b => a * b) p (moms S n)).length
  rw [List.take_length] at this
  exact fz1 B this (by omega) (by omega)
theorem gd_pm {p q : List Rat} (hp : ∀ i, Gd D 1 16 (co p i)) (hq : ∀ i, Gd D 1 16 (co q i)) : ∀ k i, Gd D 2 (32 + k) (co (pmulTo p q k) i)
  | 0, i => by rw [pmulTo, co_nil]; exact gd_zero _ _ _
  | k + 1, i => by
    rw [pmulTo, co_psum]
    refine gd_add (gd_pm hp hq k i) (gd_mono (gd_shf B (n := 2) (b := 32) (fun j => ?_) k i) (Nat.le_refl _) (show 32 ≤ 32 + k by omega))
    rw [co_ptim]
    exact gd_mul (hq j) (hp k)
theorem po_ok {p : List Rat} (hp : ∀ i, Gd D 1 16 (co p i)) (hl : p.length ≤ 4) : PoOk p p ∧ ∀ i, Gd D 2 36 (co (pmul p p) i) := by
  refine ⟨⟨fun i => fz1 B (hp i), fun x hx => fz1 B (gd_mem B hp x hx), fun k i hk => fz1 B (gd_pm B hp hp k i) (by decide) (by omega), fun k i _ => fz1 B (gd_shf B (n := 2) (b := 32) (fun j => ?_) k i), by omega, by omega⟩, fun i => gd_mono (gd_pm B hp hp p.length i) (Nat.le_refl _) (by omega)⟩
  rw [co_ptim]
  exact gd_mul (hp j) (hp k)
theorem nx_ok {p q : List Rat} {a b : Rat} (hp : ∀ i, Gd D 1 16 (co p i)) (hq : ∀ i, Gd D 1 16 (co q i)) (ha : Gd D 1 16 a) (hb : Gd D 1 16 b) (lp : p.length ≤ 50) (lq : q.length ≤ 50) : NxOk p q a b :=
  ⟨fun x hx => fz1 B (gd_mem B hp x hx), fun x hx => fz1 B (gd_mem B hq x hx), fz1 B ha, fz1 B hb, lp, lq, fun i => fz1 B (gd_shf B hp 1 i), fun i => fz1 B (gd_mul (hp i) ha),
    fun i => fz1 B (gd_sub (gd_mono (gd_shf B hp 1 i) (show 1 ≤ 2 by decide) (show 16 ≤ 32 by decide)) (gd_mul (hp i) ha)), fun i => fz1 B (gd_mul (hq i) hb)⟩
theorem gd_horner {x : Rat} (hx : Gd D 1 3 x) : ∀ {p : List Rat}, (∀ y ∈ p, Gd D 1 16 y) → Gd D (p.length + 1) (17 + 4 * p.length) (horner p x)
  | [], _ => gd_zero _ _ _
  | a :: p, h => by
    have ih := gd_horner hx (p := p) fun y hy => h y (List.mem_cons_of_mem _ hy)
    show Gd _ _ _ (horner p x * x + a)
    have := gd_add (gd_mul ih hx) (gd_mono (h a List.mem_cons_self) (show 1 ≤ p.length + 1 + 1 by omega) (show 16 ≤ 17 + 4 * p.length + 3 by omega))
    exact gd_mono this (by simp) (by simp; omega)
theorem wo_ok {x : Rat} {p : List Rat} (hx : Gd D 1 3 x) (hp : ∀ i, Gd D 1 16 (co p i)) (hl : p.length ≤ 4) : (∀ k, Fz (horner (p.drop k) x)) ∧ ∀ k, Fz (horner (p.drop k) x * x) := by
  have g : ∀ k, Gd D 5 33 (horner (p.drop k) x) := fun k => by
    have := gd_horner B hx (p := p.drop k) fun y hy => gd_mem B hp y (List.mem_of_mem_drop hy)
    exact gd_mono this (by rw [List.length_drop]; omega) (by rw [List.length_drop]; omega)
  exact ⟨fun k => fz1 B (g k), fun k => fz1 B (gd_mul (g k) hx)⟩
end
/-! ### lengths -/
theorem pmulTo_len1 (p q : List Rat) : ∀ k, (pmulTo p q (k + 1)).length ≤ k + q.length
  | 0 => by
    have h2 := psum_len (pmulTo p q 0) (pshf (ptim q (co p 0)) 0)
    have h3 := pshf_len (ptim q (co p 0)) 0
    have h4 := ptim_len q (co p 0)
    have h1 : (pmulTo p q 0).length = 0 := rfl
    show (psum (pmulTo p q 0) (pshf (ptim q (co p 0)) 0)).length ≤ _
    omega
  | k + 1 => by
    have h1 := pmulTo_len1 p q k
    have h2 := psum_len (pmulTo p q (k + 1)) (pshf (ptim q (co p (k + 1))) (k + 1))
    have h3 := pshf_len (ptim q (co p (k + 1))) (k + 1)
    have h4 := ptim_len q (co p (k + 1))
    show (psum _ _).length ≤ _
    omega
theorem pmul_len1 {p : List Rat} {k : Nat} (h : p.length = k + 1) : (pmul p p).length ≤ 2 * k + 1 := by
  have := pmulTo_len1 p p k
  unfold pmul
  rw [h] at this ⊢
  omega
/-! ### values from the row -/
section
variable {S : Shr}
theorem dot_sq {k n : Nat} (hn : 2 * k ≤ n) : dot (pmul (Pk S k) (Pk S k)) (moms S n) = Hk S k := by
  have := pmul_len1 (pk_monic S k).2.1
  rw [dot_moms S _ n (by omega), hk_eq]
  exact ls_congr fun a _ => horner_pmul _ _ _
theorem dot_lv {k n : Nat} (hn : 2 * k + 1 ≤ n) : dot (pshf (pmul (Pk S k) (Pk S k)) 1) (moms S n) = Ls S fun x => x * (vv S k x * vv S k x) := by
  have := pmul_len1 (pk_monic S k).2.1
  have := pshf_len (pmul (Pk S k) (Pk S k)) 1
  rw [dot_moms S _ n (by omega)]
  refine ls_congr fun a _ => ?_
  rw [horner_pshf, horner_pmul]
  show vv S k a.1 * vv S k a.1 * a.1 ^ 1 = _
  rw [Rat.pow_succ, Rat.pow_zero]
  grind
theorem dot_end (h : PosW S) {j n : Nat} (hn : j + (Pk S S.length).length ≤ n + 1) : dot (pshf (Pk S S.length) j) (moms S n) = 0 := by
  have := pshf_len (Pk S S.length) j
  rw [dot_moms S _ n (by omega)]
  refine ls_none fun a ha => ?_
  rw [horner_pshf]
  show vv S S.length a.1 * a.1 ^ j = 0
  rw [vv_end h a ha, Rat.zero_mul]
theorem mo_hk : mo S 0 = Hk S 0 := by
  rw [mo_ls, hk_eq]
  refine ls_congr fun a _ => ?_
  rw [vv_zero, Rat.pow_zero, Rat.mul_one]
theorem moms_cons (n : Nat) : ∃ l, moms S n = Hk S 0 :: l := by
  refine ⟨(List.range n).map fun i => mo S (i + 1), ?_⟩
  unfold moms
  rw [List.range_succ_eq_map, List.map_cons, mo_hk, List.map_map]
  rfl
end
/-! ### the worths -/
def wsum (S : Shr) (w : Nat → Rat) (x : Rat) : Nat → Rat
  | 0 => 0
  | n + 1 => wsum S w x n + w n * vv S n x
theorem wsum_step (S : Shr) (w w' : Nat → Rat) (x : Rat) : ∀ n, (∀ h, h < n → w' h = (if h = 0 then 0 else w (h - 1)) + w h * Ak S h + w (h + 1) * Bk (Hk S) (h + 1)) →
    x * wsum S w x n = wsum S w' x n + (if n = 0 then 0 else w (n - 1) * vv S n x - w n * Bk (Hk S) n * vv S (n - 1) x)
  | 0, _ => by simp [wsum]; grind
  | n + 1, hw => by
    have ih := wsum_step S w w' x n fun h hh => hw h (by omega)
    have e := hw n (by omega)
    have hx := vv_succ S n x
    rw [wsum, wsum, if_neg (by omega), Nat.add_sub_cancel, e]
    cases n with
    | zero =>
      rw [if_pos rfl] at ih
      rw [bk_zero] at hx
      rw [if_pos rfl]
      simp only [wsum] at ih ⊢
      grind
    | succ n =>
      rw [if_neg (by omega), Nat.add_sub_cancel] at ih
      rw [Nat.add_sub_cancel] at hx
      rw [if_neg (by omega), Nat.add_sub_cancel]
      grind
theorem ls_wsum (S : Shr) (w : Nat → Rat) (m : Nat) (hz : ∀ k, k < m → Hk S k ≠ 0) : ∀ n, 1 ≤ n → n ≤ m → Ls S (fun x => wsum S w x n) = w 0 * Hk S 0
  | 0, h, _ => by omega
  | 1, _, _ => by
    have : Ls S (fun x => wsum S w x 1) = Ls S (fun x => w 0 * (vv S 0 x * vv S 0 x)) := ls_congr fun a _ => by
      simp only [wsum, vv_zero]; grind
    rw [this, ls_mul, hk_eq]
  | n + 2, _, hm => by
    have ih := ls_wsum S w m hz (n + 1) (by omega) (by omega)
    have e : Ls S (fun x => wsum S w x (n + 2)) = Ls S (fun x => wsum S w x (n + 1)) + w (n + 1) * ip S (vv S 0) (vv S (n + 1)) := by
      unfold ip
      rw [← ls_mul, ← ls_add]
      refine ls_congr fun a _ => ?_
      rw [wsum, vv_zero]; grind
    rw [e, ih, orth S m hz 0 (n + 1) (by omega) (by omega), Rat.mul_zero, Rat.add_zero]
end RS

set_option Elab.async false
set_option linter.all false
set_option exponentiation.threshold 5000
set_option maxHeartbeats 1000000
/-! The plain law: what a drawn share is good for. -/
namespace RS
theorem num_facts {x : Rat} (h : NumOk x) : It 2 x ∧ -4 ≤ x ∧ x ≤ 4 := by
  obtain ⟨a, b, h1, h2, h3, h4, rfl⟩ := h
  have a1 : ((-4 : Int) : Rat) ≤ (a : Rat) := by exact_mod_cast h1
  have a2 : (a : Rat) ≤ ((4 : Int) : Rat) := by exact_mod_cast h2
  have c1 : ((-4 : Int) : Rat) = -4 := rfl
  have c2 : ((4 : Int) : Rat) = 4 := rfl
  rw [Rat.divInt_eq_div]
  rcases (by omega : b = 1 ∨ b = 2) with rfl | rfl
  · have e : (a : Rat) / ((1 : Int) : Rat) = a := by
      have : ((1 : Int) : Rat) = 1 := rfl
      rw [this]; grind
    rw [e]
    exact ⟨it_int 2 a, by grind, by grind⟩
  · have e : (a : Rat) / ((2 : Int) : Rat) * 2 = a := by
      have : ((2 : Int) : Rat) = 2 := rfl
      rw [this]; grind
    refine ⟨⟨a, e⟩, ?_, ?_⟩ <;> grind
theorem wgt_facts {x : Rat} (h : WgtOk x) : It 2 x ∧ 0 < x ∧ x ≤ 4 := by
  obtain ⟨a, b, h1, h2, h3, h4, rfl⟩ := h
  have z := num_facts (x := Rat.divInt a b) ⟨a, b, by omega, by omega, h3, h4, rfl⟩
  refine ⟨z.1, ?_, z.2.2⟩
  have a1 : ((1 : Int) : Rat) ≤ (a : Rat) := by exact_mod_cast h1
  have c1 : ((1 : Int) : Rat) = 1 := rfl
  rw [Rat.divInt_eq_div]
  rcases (by omega : b = 1 ∨ b = 2) with rfl | rfl
  · have e : (a : Rat) / ((1 : Int) : Rat) = a := by
      rw [c1]; grind
    rw [e]
    grind
  · have e : (a : Rat) / ((2 : Int) : Rat) * 2 = a := by
      have : ((2 : Int) : Rat) = 2 := rfl
      rw [this]; grind
    grind
theorem hf_of {S : Shr} (g : GoodS S) : Hf S :=
  ⟨⟨asc_nodup g.asc, fun a ha => (wgt_facts (g.wgt a ha)).2.1⟩, fun a ha => (num_facts (g.num a ha)).1, fun a ha => (num_facts (g.num a ha)).2.1, fun a ha => (num_facts (g.num a ha)).2.2, fun a ha => (wgt_facts (g.wgt a ha)).1, fun a ha => (wgt_facts (g.wgt a ha)).2.2, g.ne, g.few⟩
theorem sh_ok {S : Shr} (g : GoodS S) : ShOk S := by
  have h := hf_of g
  refine ⟨g.ne, by have := g.few; omega, fun i a b ha hb => ?_, h.p.w, fun a ha => (g.num a ha).fz, fun a ha => (g.wgt a ha).fz⟩
  have hi : i < (S.map (·.1)).length := by rw [List.length_map]; exact (List.getElem?_eq_some_iff.mp ha).1
  have hj : i + 1 < (S.map (·.1)).length := by rw [List.length_map]; exact (List.getElem?_eq_some_iff.mp hb).1
  have := List.pairwise_iff_getElem.mp g.asc i (i + 1) hi hj (by omega)
  rw [List.getElem_map, List.getElem_map] at this
  have e1 : S[i]'(by simpa using hi) = a := (List.getElem?_eq_some_iff.mp ha).2
  have e2 : S[i + 1]'(by simpa using hj) = b := (List.getElem?_eq_some_iff.mp hb).2
  rw [e1, e2] at this
  exact this
theorem mo_ok {S : Shr} (g : GoodS S) : MoOk S 8 := by
  have h := hf_of g
  have f : ∀ {r : Rat} {n b : Nat}, Gd 2 n b r → n ≤ 9 → b ≤ 300 → Fz r := fun h hn hb => gd_fz h (by decide) (by decide +kernel) hn hb
  exact ⟨fun a ha => (g.num a ha).fz, fun a ha => (g.wgt a ha).fz, fun a ha k hk => f (gd_pow (gx2 h a ha) k) (by omega) (by omega), fun a ha k hk => f (gt2 h a ha k hk) (by decide) (by decide), fun j k hk => f (gs2 h k j hk) (by decide) (by decide)⟩
section
variable {S : Shr} (h : Hf S) {D : Nat} (B : Bs S D)
include h B
theorem pl {k : Nat} : (Pk S k).length = k + 1 := (pk_monic S k).2.1
theorem bt_ok {n m : Nat} {stop : Bool} (hn : n ≤ 8) (hm : m ≤ S.length) (h1 : stop = false → m = S.length ∧ n = 2 * S.length) (h2 : stop = true → m + 1 = S.length ∧ n + 1 = 2 * S.length) : BtOk (moms S n) (Pk S) (Hk S) (Ak S) m stop := by
  have l3 := h.l3
  have ml : (moms S n).length = n + 1 := by simp [moms]
  have hmn : 2 * m ≤ n := by
    cases stop with
    | false => have := h1 rfl; omega
    | true => have := h2 rfl; omega
  have lev : ∀ k, k < m ∨ (k = m ∧ stop = true) → k < S.length ∧ 2 * k + 1 ≤ n := fun k hk => by
    cases stop with
    | false => have := h1 rfl; rcases hk with hk | hk; · omega
               · simp at hk
    | true => have := h2 rfl; omega
  refine ⟨rfl, moms_cons n, fun k hk => fz1 B (B.h k (by omega)), fun k hk => hk_pos h.p (by omega), ?_, fun k hk => ?_, fun k hk => by rw [ml]; omega, fun e => ?_, fun k hk => ⟨?_, pk_succ S k⟩, fun k hk => ?_, by omega, by rw [ml]; omega⟩
  · cases stop with
    | false => rw [if_neg (by decide), (h1 rfl).1]; exact hk_end h.p
    | true => rw [if_pos rfl]; exact hk_pos h.p (by have := h2 rfl; omega)
  · obtain ⟨k1, k2⟩ := lev k hk
    obtain ⟨po, pg⟩ := po_ok B (B.c k (by omega)) (by rw [pl h B]; omega)
    have pm := pmul_len1 (pl h B (k := k))
    have ps := pshf_len (pmul (Pk S k) (Pk S k)) 1
    obtain ⟨sf, fd⟩ := sf_ok B hn (gd_shf B pg 1) (by decide) (by decide) (by omega)
    refine ⟨⟨po, sf, fz1 B (B.h k (by omega)), hk_ne h k1, fd, by rw [ml]; omega⟩, ?_⟩
    rw [dot_lv k2, ak_eq]
  · rw [ml]; have := h2 e; omega
  · have lq := (pk_monic S k).2.2.2
    exact nx_ok B (B.c k (by omega)) (B.q k (by omega)) (B.a k (by omega)) (B.b k (by omega)) (by rw [pl h B]; omega) (by omega)
  · obtain ⟨po, pg⟩ := po_ok B (B.c (k + 1) (by omega)) (by rw [pl h B]; omega)
    have pm := pmul_len1 (pl h B (k := k + 1))
    obtain ⟨sf, _⟩ := sf_ok B hn pg (by decide) (by decide) (by omega)
    exact ⟨po, sf, (dot_sq (by omega)).symm⟩
theorem mf_ok : MfOk (moms S (2 * S.length)) (Pk S S.length) := by
  have l3 := h.l3
  have ml : (moms S (2 * S.length)).length = 2 * S.length + 1 := by simp [moms]
  refine ⟨fun j hj => ?_, by rw [pl h B]; omega, by rw [ml]; omega, by rw [pl h B, ml]; omega⟩
  rw [ml] at hj
  have ps := pshf_len (Pk S S.length) j
  exact ⟨(sf_ok B (by omega) (gd_shf B (B.c S.length (Nat.le_refl _)) j) (by decide) (by decide) (by omega)).1, dot_end h.p hj⟩
theorem ro1 : RoOk (moms S (2 * S.length)) (Pk S) (Hk S) (Ak S) S.length false := by
  have l3 := h.l3
  exact ⟨⟨bt_ok h B (by omega) (Nat.le_refl _) (fun _ => ⟨rfl, rfl⟩) (fun e => by cases e), fun _ => mf_ok h B⟩, hk_pos h.p h.l1⟩
theorem ro2 : RoOk (moms S (2 * S.length - 1)) (Pk S) (Hk S) (Ak S) (S.length - 1) true := by
  have l3 := h.l3
  have l1 := h.l1
  exact ⟨⟨bt_ok h B (by omega) (by omega) (fun e => by cases e) (fun _ => ⟨by omega, by omega⟩), fun e => by cases e⟩, hk_pos h.p h.l1⟩
end
end RS

set_option Elab.async false
set_option linter.all false
set_option exponentiation.threshold 5000
set_option maxHeartbeats 1000000
/-! The plain law: the ladder of a drawn share. -/
namespace RS
def AL (S : Shr) : List Rat := (List.range S.length).map (Ak S)
def BL (S : Shr) : List Rat := (List.range S.length).map fun k => Hk S (k + 1) / Hk S k
def BL' (S : Shr) : List Rat := (List.range (S.length - 1)).map fun k => Hk S (k + 1) / Hk S k
section
variable {S : Shr}
theorem co_AL (k : Nat) : co (AL S) k = if k < S.length then Ak S k else 0 := by
  unfold AL
  split
  · next h => unfold co; rw [getD_range h]
  · exact co_out (by simp; omega)
theorem co_BL (k : Nat) : co (BL S) k = if k < S.length then Bk (Hk S) (k + 1) else 0 := by
  unfold BL
  split
  · next h => unfold co; rw [getD_range h]; rfl
  · exact co_out (by simp; omega)
theorem AL_len : (AL S).length = S.length := by simp [AL]
theorem BL_len : (BL S).length = S.length := by simp [BL]
theorem rgs_eq : ∀ k, k ≤ S.length → rgs (AL S) (BL S) k = (Pk S k, Qk (Pk S) k)
  | 0, _ => rfl
  | k + 1, hk => by
    rw [rgs, rgs_eq k (by omega), co_AL, if_pos (by omega), pk_succ]
    congr 1
    congr 1
    cases k with
    | zero => rfl
    | succ k =>
      rw [if_neg (by omega), co_BL, if_pos (by omega)]
      rfl
variable (h : Hf S) {D : Nat} (B : Bs S D)
include h B
theorem gd_A (i : Nat) : Gd D 1 16 (co (AL S) i) := by
  rw [co_AL]
  split
  · next hi => exact B.a i hi
  · exact gd_zero _ _ _
theorem gd_B (i : Nat) : Gd D 1 16 (co (BL S) i) := by
  rw [co_BL]
  split
  · next hi => exact B.b (i + 1) (by omega)
  · exact gd_zero _ _ _
theorem mem_B {n : Nat} (hn : n ≤ S.length) : ∀ b ∈ (List.range n).map (fun k => Hk S (k + 1) / Hk S k), Fz b ∧ ∃ k, k < n ∧ b = Hk S (k + 1) / Hk S k := fun b hb => by
  obtain ⟨k, hk, rfl⟩ := List.mem_map.mp hb
  have hk' := List.mem_range.mp hk
  exact ⟨fz1 B (B.b (k + 1) (by omega)), k, hk', rfl⟩
theorem step_pos {k : Nat} (hk : k + 1 < S.length) : 0 < Hk S (k + 1) / Hk S k := by
  have h1 := hk_pos h.p hk
  have h0 := hk_pos h.p (k := k) (by omega)
  rw [Rat.div_def]
  exact Rat.mul_pos h1 (Rat.inv_pos.mpr h0)
theorem end_BL : endB (BL S) = true := by
  obtain ⟨n, hn⟩ : ∃ n, S.length = n + 1 := ⟨S.length - 1, by have := h.l1; omega⟩
  unfold endB BL
  rw [hn, List.range_succ, List.map_append, List.map_cons, List.map_nil, List.getLast?_concat]
  have e : Hk S (n + 1) = 0 := by rw [← hn]; exact hk_end h.p
  rw [e, show (0 : Rat) / Hk S n = 0 by grind]
  decide
theorem drop_BL : (BL S).dropLast = BL' S := by
  obtain ⟨n, hn⟩ : ∃ n, S.length = n + 1 := ⟨S.length - 1, by have := h.l1; omega⟩
  unfold BL BL'
  rw [hn, List.range_succ, List.map_append, List.map_cons, List.map_nil, List.dropLast_concat]
  rfl
theorem pos_BL' : ∀ b ∈ BL' S, 0 < b := fun b hb => by
  obtain ⟨_, k, hk, rfl⟩ := mem_B h B (n := S.length - 1) (by omega) b hb
  exact step_pos h B (by omega)
theorem end_BL' : endB (BL' S) = false := by
  unfold endB
  refine decide_eq_false fun e => ?_
  have hm : (0 : Rat) ∈ BL' S := List.mem_of_getLast? e
  have := pos_BL' h B 0 hm
  grind
theorem ld1 : LdOk (Hk S 0) (AL S) (BL S) := by
  have l3 := h.l3
  refine ⟨hk_pos h.p h.l1, fz1 B (B.h 0 (by omega)), by rw [AL_len]; omega, by rw [BL_len]; omega, fun b hb => (mem_B h B (Nat.le_refl _) b hb).1, fun _ => ⟨by rw [AL_len, BL_len], ?_⟩, fun e => ?_⟩
  · rw [drop_BL h B]; exact pos_BL' h B
  · rw [end_BL h B] at e; cases e
theorem ld2 : LdOk (Hk S 0) (AL S) (BL' S) := by
  have l3 := h.l3
  have l1 := h.l1
  have bl : (BL' S).length = S.length - 1 := by simp [BL']
  refine ⟨hk_pos h.p h.l1, fz1 B (B.h 0 (by omega)), by rw [AL_len]; omega, by rw [bl]; omega, fun b hb => (mem_B h B (n := S.length - 1) (by omega) b hb).1, fun e => ?_, fun _ => ⟨by rw [AL_len]; omega, .inr (by rw [AL_len, bl]; omega), pos_BL' h B⟩⟩
  rw [end_BL' h B] at e; cases e
/-! the worths -/
theorem wss_len' : ∀ k, 1 ≤ (wss (Hk S 0) (AL S) (BL S) k).length ∧ (wss (Hk S 0) (AL S) (BL S) k).length ≤ S.length + 1
  | 0 => ⟨Nat.le_refl 1, by show 1 ≤ _; omega⟩
  | k + 1 => by
    simp only [wss, stp, List.length_map, List.length_range, BL_len]
    omega
theorem co_stp {W : List Rat} (hl : 1 ≤ W.length ∧ W.length ≤ S.length + 1) (i : Nat) (hi : i ≤ S.length) : co (stp W (AL S) (BL S)) i = (if i = 0 then 0 else co W (i - 1)) + co W i * co (AL S) i + co W (i + 1) * co (BL S) i := by
  unfold stp
  rw [BL_len]
  by_cases hlt : i < 1 + min W.length S.length
  · unfold co; rw [getD_range hlt]
  · rw [co_out (by simp; omega), if_neg (by omega), co_out (p := W) (by omega), co_out (p := W) (by omega), co_out (p := W) (by omega)]
    grind
theorem gd_stp {W : List Rat} {n b : Nat} (hW : ∀ i, Gd D n b (co W i)) (i : Nat) : Gd D (n + 1) (b + 18) (co (stp W (AL S) (BL S)) i) := by
  unfold stp
  by_cases hlt : i < 1 + min W.length (BL S).length
  · unfold co
    rw [getD_range hlt]
    have g0 : Gd D (n + 1) (b + 16) (if i = 0 then 0 else co W (i - 1)) := by
      split
      · exact gd_zero _ _ _
      · exact gd_mono (hW _) (by omega) (by omega)
    have g1 := gd_mul (hW i) (gd_A h B i)
    have g2 := gd_mul (hW (i + 1)) (gd_B h B i)
    exact gd_add (gd_add g0 g1) (gd_mono g2 (Nat.le_refl _) (by omega))
  · rw [co_out (by simp at hlt ⊢; omega)]
    exact gd_zero _ _ _
theorem gd_wss : ∀ k i, Gd D (k + 1) (16 + 18 * k) (co (wss (Hk S 0) (AL S) (BL S) k) i)
  | 0, i => by
    cases i with
    | zero => exact B.h 0 (by omega)
    | succ i =>
      rw [co_out (by show 1 ≤ i + 1; omega)]
      exact gd_zero _ _ _
  | k + 1, i => gd_mono (gd_stp h B (gd_wss k) i) (Nat.le_refl _) (by omega)
theorem st_ok (k : Nat) (hk : k < 8) : StOk (wss (Hk S 0) (AL S) (BL S) k) (AL S) (BL S) := by
  have g := gd_wss h B k
  obtain ⟨l1, l2⟩ := wss_len' h B k
  have l3 := h.l3
  refine ⟨fun i => fz1 B (g i) (by omega) (by omega), fun i => fz1 B (gd_A h B i), fun i => fz1 B (gd_B h B i), fun i => fz1 B (gd_mul (g i) (gd_A h B i)) (by omega) (by omega), fun i => fz1 B (gd_mul (g (i + 1)) (gd_B h B i)) (by omega) (by omega), fun j i => ?_, by rw [AL_len, BL_len]; omega, by rw [BL_len]; omega, l1, by rw [BL_len]; omega⟩
  unfold stpTo
  have g0 : Gd D (k + 1 + 1) (16 + 18 * k + 16) (if i = 0 then 0 else co (wss (Hk S 0) (AL S) (BL S) k) (i - 1)) := by
    split
    · exact gd_zero _ _ _
    · exact gd_mono (g _) (by omega) (by omega)
  have g1 : Gd D (k + 1 + 1) (16 + 18 * k + 16) (if i < j then co (wss (Hk S 0) (AL S) (BL S) k) i * co (AL S) i else 0) := by
    split
    · exact gd_mul (g i) (gd_A h B i)
    · exact gd_zero _ _ _
  have g2 : Gd D (k + 1 + 1) (16 + 18 * k + 16 + 1) (if i + 1 < j then co (wss (Hk S 0) (AL S) (BL S) k) (i + 1) * co (BL S) i else 0) := by
    split
    · exact gd_mono (gd_mul (g (i + 1)) (gd_B h B i)) (Nat.le_refl _) (by omega)
    · exact gd_zero _ _ _
  exact fz1 B (gd_add (gd_add g0 g1) g2) (by omega) (by omega)
theorem wss_val : ∀ k, ∀ a ∈ S, Hk S 0 * a.1 ^ k = wsum S (co (wss (Hk S 0) (AL S) (BL S) k)) a.1 S.length
  | 0, a, ha => by
    have z : ∀ n, wsum S (co (wss (Hk S 0) (AL S) (BL S) 0)) a.1 (n + 1) = Hk S 0 := by
      intro n
      induction n with
      | zero =>
        simp only [wsum, vv_zero]
        show 0 + Hk S 0 * 1 = _
        grind
      | succ n ih =>
        rw [wsum, ih, co_out (by show 1 ≤ n + 1; omega)]
        grind
    obtain ⟨n, hn⟩ : ∃ n, S.length = n + 1 := ⟨S.length - 1, by have := h.l1; omega⟩
    rw [hn, z, Rat.pow_zero, Rat.mul_one]
  | k + 1, a, ha => by
    have ih := wss_val k a ha
    have l1 := h.l1
    have st := wsum_step S (co (wss (Hk S 0) (AL S) (BL S) k)) (co (wss (Hk S 0) (AL S) (BL S) (k + 1))) a.1 S.length fun i hi => by
      show co (stp _ _ _) i = _
      rw [co_stp h B (wss_len' h B k) i (by omega), co_AL, if_pos hi, co_BL, if_pos hi]
    have bz : Bk (Hk S) S.length = 0 := by
      unfold Bk
      rw [if_neg (by omega), hk_end h.p]
      grind
    rw [if_neg (by omega), vv_end h.p a ha, bz] at st
    rw [Rat.pow_succ]
    grind
theorem wss_mo (k : Nat) : co (wss (Hk S 0) (AL S) (BL S) k) 0 = mo S k := by
  have hz : ∀ k, k < S.length → Hk S k ≠ 0 := fun k hk => hk_ne h hk
  have e1 := ls_wsum S (co (wss (Hk S 0) (AL S) (BL S) k)) S.length hz S.length h.l1 (Nat.le_refl _)
  have e2 : Ls S (fun x => wsum S (co (wss (Hk S 0) (AL S) (BL S) k)) x S.length) = Hk S 0 * mo S k := by
    rw [mo_ls, ← ls_mul]
    exact ls_congr fun a ha => (wss_val h B k a ha).symm
  rw [e2] at e1
  have h0 := hk_ne h h.l1
  have e3 : (co (wss (Hk S 0) (AL S) (BL S) k) 0 - mo S k) * Hk S 0 = 0 := by grind
  rcases Rat.mul_eq_zero.mp e3 with e | e
  · grind
  · exact absurd e h0
theorem away {a : Rat × Rat} (ha : a ∈ S) : horner (Pk S S.length) (a.1 + 1 / 7) ≠ 0 := fun e => by
  obtain ⟨_, m2, m3, _⟩ := pk_monic S S.length
  refine roots S.length (Pk S S.length) ((a.1 + 1 / 7) :: S.map (·.1)) m2 (by rw [m3]; decide) (by simp) ?_ fun y hy => ?_
  · rw [List.nodup_cons]
    refine ⟨fun hm => ?_, h.p.nd⟩
    obtain ⟨b, hb, hab⟩ := List.mem_map.mp hm
    obtain ⟨n, hn⟩ := it_sub (h.x b hb) (h.x a ha)
    have e1 : (b.1 - a.1) * ((2 : Nat) : Rat) * 7 = 2 := by
      have : ((2 : Nat) : Rat) = 2 := rfl
      rw [this, hab]; grind
    rw [hn] at e1
    have e2 : ((n * 7 : Int) : Rat) = ((2 : Int) : Rat) := by
      rw [Rat.intCast_mul]
      exact e1
    have e3 : n * 7 = 2 := by exact_mod_cast e2
    omega
  · rcases List.mem_cons.mp hy with rfl | hy
    · exact e
    · obtain ⟨b, hb, rfl⟩ := List.mem_map.mp hy
      exact vv_end h.p b hb
theorem gl_ok : GL S (Hk S) (Ak S) (AL S) (BL S) (BL' S) (Pk S S.length) := by
  have l3 := h.l3
  have rg := rgs_eq (S := S)
  have pm := pk_monic S S.length
  refine ⟨rfl, rfl, rfl, ld1 h B, end_BL h B, ld2 h B, end_BL' h B, st_ok h B, fun k _ => wss_mo h B k, fun k hk => ?_, by rw [rg _ (Nat.le_refl _)], pm.1, by rw [pm.2.1]; omega, fun x hx => fz1 B (gd_mem B (B.c S.length (Nat.le_refl _)) x hx), fun a ha => ?_, fun a ha => ?_⟩
  · rw [AL_len] at hk
    rw [rg k (by omega), co_AL, if_pos hk]
    have e : (if k = 0 then 0 else co (BL S) (k - 1)) = Bk (Hk S) k := by
      cases k with
      | zero => rfl
      | succ k => rw [if_neg (by omega), Nat.add_sub_cancel, co_BL, if_pos (by omega)]
    rw [e]
    have lq := (pk_monic S k).2.2.2
    exact nx_ok B (B.c k (by omega)) (B.q k (by omega)) (B.a k (by omega)) (B.b k (by omega)) (by rw [pl h B]; omega) (by show (Qk (Pk S) k).length ≤ 50; omega)
  · obtain ⟨h1, h2⟩ := wo_ok B (B.x a ha) (B.c S.length (Nat.le_refl _)) (by rw [pm.2.1]; omega)
    exact ⟨vv_end h.p a ha, h1, h2⟩
  · obtain ⟨h1, h2⟩ := wo_ok B (B.y a ha) (B.c S.length (Nat.le_refl _)) (by rw [pm.2.1]; omega)
    exact ⟨fz1 B (B.y a ha), away h B ha, h1, h2⟩
end
theorem gf_ok : ∀ S, GoodS S → GF S := fun S g => by
  have h := hf_of g
  obtain ⟨D, B⟩ := base_ok h
  exact ⟨sh_ok g, mo_ok g, Pk S, Hk S, Ak S, AL S, BL S, BL' S, Pk S S.length, ro1 h B, ro2 h B, gl_ok h B⟩
theorem eq_moms : ∀ S O, GoodS S → GoodS O → (moms S (2 * max S.length O.length - 1) = moms O (2 * max S.length O.length - 1) ↔ S = O) := fun S O gS gO => by
  have hS := hf_of gS
  have hO := hf_of gO
  refine ⟨fun e => ?_, fun e => by rw [e]⟩
  refine share_ext gS.asc gO.asc hS.p.w hO.p.w fun k hk => ?_
  have l1 := hS.l1
  have l2 := hO.l1
  have hk' : k < 2 * max S.length O.length - 1 + 1 := by omega
  have := congrArg (fun l => l[k]?) e
  simp only [moms, List.getElem?_map, List.getElem?_range hk', Option.map_some] at this
  exact Option.some.inj this
end RS

set_option Elab.async false
set_option linter.all false
set_option maxRecDepth 100000
set_option maxHeartbeats 4000000
/-! From the written part's answers to the facts (printed by gen_fin.py). -/
namespace RS
open PySem PySem.Spec PyProof.Rows L2 PySem.RsX
theorem df_mk {K : PySem.W.Frag} {mg : Str → Option Value} {h : Heap} {x : Str} {st : Stmt} (X : K.In h) (G : h.Ns mainGlobals mg) {f : Addr} {od an : Option Addr} {sl : Array (Option Value)} {oc kV dc pm cd ct : Value}
    (a : PySem.W.nsIn K mainGlobals x = some (some (.ref f))) (l : K.lookup f = some ⟨oc, od, .func (PySem.W.fnOf x x (defArgs st) (defBody st) (defScope st) .none kV dc pm an cd ct), sl⟩) (c : PySem.W.codeIn K cd x = true) (k : PySem.W.keepIn K (.ref f) = true) : Df K mg x st :=
  ⟨f, _, PySem.W.mg_of X G a, fun_mk l c k⟩
theorem xa_mk {K : PySem.W.Frag} {C : Addr} (cl : PySem.W.isClsIn K C = true) (ga : PySem.W.findIn K (.ref C) "__getattribute__" = some (some (.builtin "BaseException.__getattribute__"))) (gg : PySem.W.findIn K (.ref C) "__getattr__" = some none) (ex : PySem.W.subIn K (.ref C) (.type "BaseException") = some true) (hd : PySem.W.hasDictIn K C = true)
    (ca : PySem.W.findIn K (.ref C) "__class__" = some (some (.builtin "object.__class__"))) (cn : PySem.W.specialIn K (.builtin "object.__class__") "__get__" = some (some (.builtin "getset_descriptor.__get__"))) (ct : PySem.W.takesIn K (.builtin "object.__class__") = some true) (cm : PySem.W.mroIn K C (.type "object") = some true) : XA K C :=
  ⟨cl, ga, gg, ex, hd, ca, cn, ct, cm⟩
/-- the j-th statement of the class that stands at i -/
def ini (i : Nat) : Stmt := match top i with
  | .ClassDef _ _ _ b _ _ _ _ _ _ _ => b.getD 0 (.Pass ⟨0, 0, 0, 0⟩)
  | s => s
theorem xk_part {P : Program} {w : World} {K : PySem.W.Frag} {mg : Str → Option Value} {h : Heap} {x : Str} {C fI : Addr} {T : String} {bmB : List Value} {B newId initId : String} {bmN : List Value} {st : Stmt} {oc : Value} {od : Option Addr} {qual : Str} {doc pm : Value} {an : Option Addr} {cdv ct : Value} {osl : Array (Option Value)} {p1 p2 q1 q2 q3 q4 : Pos} (X : K.In h) (G : h.Ns mainGlobals mg)
    (a : PySem.W.nsIn K mainGlobals x = some (some (.ref C))) (Z : XC K C fI T bmB B newId initId bmN) (ho : K.lookup fI = some ⟨oc, od, .func (PySem.W.fnOf "__init__" qual (defArgs st) (defBody st) (defScope st) .none .none doc pm an cdv ct), osl⟩) (hcd : PySem.W.codeIn K cdv qual = true) (ht : PySem.W.takerIn K C "part" = some none)
    (h1 : defArgs st = iA "part" p1 p2 := by rfl) (h2 : defBody st = iB "part" q1 q2 q3 q4 := by rfl) (h3 : defScope st = iS "part" := by rfl) : XK1 P w K mg x C 1 fun vs => [("part", vs.headD .non)] :=
  ⟨PySem.W.mg_of X G a, Z.kC, fI, T, bmB, B, newId, initId, bmN, Z, fun us hl => by
    obtain ⟨u, rfl⟩ : ∃ u, us = [u] := by
      match us, hl with
      | [u], _ => exact ⟨u, rfl⟩
    rw [h1, h2, h3] at ho
    refine ⟨fun y => if y = "part" then some u else none, fun {A} {R} {s} {x} {t0} K1 K2 K3 K4 _ K6 => x_init_part Z ho hcd ht K1 K2 K3 K4 K6, fun vs r f => ?_⟩
    cases r with
    | cons r1 r2 =>
      cases r2
      exact relO_put (fs := []) (mA := fun _ => none) r1 (fun _ => True.intro) f⟩
theorem xk_paper {P : Program} {w : World} {K : PySem.W.Frag} {mg : Str → Option Value} {h : Heap} {x : Str} {C fI : Addr} {T : String} {bmB : List Value} {B newId initId : String} {bmN : List Value} {st : Stmt} {oc : Value} {od : Option Addr} {qual : Str} {doc pm : Value} {an : Option Addr} {cdv ct : Value} {osl : Array (Option Value)} {p1 p2 q1 q2 q3 q4 : Pos} (X : K.In h) (G : h.Ns mainGlobals mg)
    (a : PySem.W.nsIn K mainGlobals x = some (some (.ref C))) (Z : XC K C fI T bmB B newId initId bmN) (ho : K.lookup fI = some ⟨oc, od, .func (PySem.W.fnOf "__init__" qual (defArgs st) (defBody st) (defScope st) .none .none doc pm an cdv ct), osl⟩) (hcd : PySem.W.codeIn K cdv qual = true) (ht : PySem.W.takerIn K C "paper" = some none)
    (h1 : defArgs st = iA "paper" p1 p2 := by rfl) (h2 : defBody st = iB "paper" q1 q2 q3 q4 := by rfl) (h3 : defScope st = iS "paper" := by rfl) : XK1 P w K mg x C 1 fun vs => [("paper", vs.headD .non)] :=
  ⟨PySem.W.mg_of X G a, Z.kC, fI, T, bmB, B, newId, initId, bmN, Z, fun us hl => by
    obtain ⟨u, rfl⟩ : ∃ u, us = [u] := by
      match us, hl with
      | [u], _ => exact ⟨u, rfl⟩
    rw [h1, h2, h3] at ho
    refine ⟨fun y => if y = "paper" then some u else none, fun {A} {R} {s} {x} {t0} K1 K2 K3 K4 _ K6 => x_init_paper Z ho hcd ht K1 K2 K3 K4 K6, fun vs r f => ?_⟩
    cases r with
    | cons r1 r2 =>
      cases r2
      exact relO_put (fs := []) (mA := fun _ => none) r1 (fun _ => True.intro) f⟩
theorem xk_path {P : Program} {w : World} {K : PySem.W.Frag} {mg : Str → Option Value} {h : Heap} {x : Str} {C fI : Addr} {T : String} {bmB : List Value} {B newId initId : String} {bmN : List Value} {st : Stmt} {oc : Value} {od : Option Addr} {qual : Str} {doc pm : Value} {an : Option Addr} {cdv ct : Value} {osl : Array (Option Value)} {p1 p2 q1 q2 q3 q4 : Pos} (X : K.In h) (G : h.Ns mainGlobals mg)
    (a : PySem.W.nsIn K mainGlobals x = some (some (.ref C))) (Z : XC K C fI T bmB B newId initId bmN) (ho : K.lookup fI = some ⟨oc, od, .func (PySem.W.fnOf "__init__" qual (defArgs st) (defBody st) (defScope st) .none .none doc pm an cdv ct), osl⟩) (hcd : PySem.W.codeIn K cdv qual = true) (ht : PySem.W.takerIn K C "path" = some none)
    (h1 : defArgs st = iA "path" p1 p2 := by rfl) (h2 : defBody st = iB "path" q1 q2 q3 q4 := by rfl) (h3 : defScope st = iS "path" := by rfl) : XK1 P w K mg x C 1 fun vs => [("path", vs.headD .non)] :=
  ⟨PySem.W.mg_of X G a, Z.kC, fI, T, bmB, B, newId, initId, bmN, Z, fun us hl => by
    obtain ⟨u, rfl⟩ : ∃ u, us = [u] := by
      match us, hl with
      | [u], _ => exact ⟨u, rfl⟩
    rw [h1, h2, h3] at ho
    refine ⟨fun y => if y = "path" then some u else none, fun {A} {R} {s} {x} {t0} K1 K2 K3 K4 _ K6 => x_init_path Z ho hcd ht K1 K2 K3 K4 K6, fun vs r f => ?_⟩
    cases r with
    | cons r1 r2 =>
      cases r2
      exact relO_put (fs := []) (mA := fun _ => none) r1 (fun _ => True.intro) f⟩
theorem xk_given {P : Program} {w : World} {K : PySem.W.Frag} {mg : Str → Option Value} {h : Heap} {x : Str} {C fI : Addr} {T : String} {bmB : List Value} {B newId initId : String} {bmN : List Value} {st : Stmt} {oc : Value} {od : Option Addr} {qual : Str} {doc pm : Value} {an : Option Addr} {cdv ct : Value} {osl : Array (Option Value)} {p1 p2 q1 q2 q3 q4 : Pos} (X : K.In h) (G : h.Ns mainGlobals mg)
    (a : PySem.W.nsIn K mainGlobals x = some (some (.ref C))) (Z : XC K C fI T bmB B newId initId bmN) (ho : K.lookup fI = some ⟨oc, od, .func (PySem.W.fnOf "__init__" qual (defArgs st) (defBody st) (defScope st) .none .none doc pm an cdv ct), osl⟩) (hcd : PySem.W.codeIn K cdv qual = true) (ht : PySem.W.takerIn K C "given" = some none)
    (h1 : defArgs st = iA "given" p1 p2 := by rfl) (h2 : defBody st = iB "given" q1 q2 q3 q4 := by rfl) (h3 : defScope st = iS "given" := by rfl) : XK1 P w K mg x C 1 fun vs => [("given", vs.headD .non)] :=
  ⟨PySem.W.mg_of X G a, Z.kC, fI, T, bmB, B, newId, initId, bmN, Z, fun us hl => by
    obtain ⟨u, rfl⟩ : ∃ u, us = [u] := by
      match us, hl with
      | [u], _ => exact ⟨u, rfl⟩
    rw [h1, h2, h3] at ho
    refine ⟨fun y => if y = "given" then some u else none, fun {A} {R} {s} {x} {t0} K1 K2 K3 K4 _ K6 => x_init_given Z ho hcd ht K1 K2 K3 K4 K6, fun vs r f => ?_⟩
    cases r with
    | cons r1 r2 =>
      cases r2
      exact relO_put (fs := []) (mA := fun _ => none) r1 (fun _ => True.intro) f⟩
theorem xk_most {P : Program} {w : World} {K : PySem.W.Frag} {mg : Str → Option Value} {h : Heap} {x : Str} {C fI : Addr} {T : String} {bmB : List Value} {B newId initId : String} {bmN : List Value} {st : Stmt} {oc : Value} {od : Option Addr} {qual : Str} {doc pm : Value} {an : Option Addr} {cdv ct : Value} {osl : Array (Option Value)} {p1 p2 q1 q2 q3 q4 : Pos} (X : K.In h) (G : h.Ns mainGlobals mg)
    (a : PySem.W.nsIn K mainGlobals x = some (some (.ref C))) (Z : XC K C fI T bmB B newId initId bmN) (ho : K.lookup fI = some ⟨oc, od, .func (PySem.W.fnOf "__init__" qual (defArgs st) (defBody st) (defScope st) .none .none doc pm an cdv ct), osl⟩) (hcd : PySem.W.codeIn K cdv qual = true) (ht : PySem.W.takerIn K C "most" = some none)
    (h1 : defArgs st = iA "most" p1 p2 := by rfl) (h2 : defBody st = iB "most" q1 q2 q3 q4 := by rfl) (h3 : defScope st = iS "most" := by rfl) : XK1 P w K mg x C 1 fun vs => [("most", vs.headD .non)] :=
  ⟨PySem.W.mg_of X G a, Z.kC, fI, T, bmB, B, newId, initId, bmN, Z, fun us hl => by
    obtain ⟨u, rfl⟩ : ∃ u, us = [u] := by
      match us, hl with
      | [u], _ => exact ⟨u, rfl⟩
    rw [h1, h2, h3] at ho
    refine ⟨fun y => if y = "most" then some u else none, fun {A} {R} {s} {x} {t0} K1 K2 K3 K4 _ K6 => x_init_most Z ho hcd ht K1 K2 K3 K4 K6, fun vs r f => ?_⟩
    cases r with
    | cons r1 r2 =>
      cases r2
      exact relO_put (fs := []) (mA := fun _ => none) r1 (fun _ => True.intro) f⟩
theorem xk_many {P : Program} {w : World} {K : PySem.W.Frag} {mg : Str → Option Value} {h : Heap} {x : Str} {C fI : Addr} {T : String} {bmB : List Value} {B newId initId : String} {bmN : List Value} {st : Stmt} {oc : Value} {od : Option Addr} {qual : Str} {doc pm : Value} {an : Option Addr} {cdv ct : Value} {osl : Array (Option Value)} {p1 p2 q1 q2 q3 q4 : Pos} (X : K.In h) (G : h.Ns mainGlobals mg)
    (a : PySem.W.nsIn K mainGlobals x = some (some (.ref C))) (Z : XC K C fI T bmB B newId initId bmN) (ho : K.lookup fI = some ⟨oc, od, .func (PySem.W.fnOf "__init__" qual (defArgs st) (defBody st) (defScope st) .none .none doc pm an cdv ct), osl⟩) (hcd : PySem.W.codeIn K cdv qual = true) (ht : PySem.W.takerIn K C "many" = some none)
    (h1 : defArgs st = iA "many" p1 p2 := by rfl) (h2 : defBody st = iB "many" q1 q2 q3 q4 := by rfl) (h3 : defScope st = iS "many" := by rfl) : XK1 P w K mg x C 1 fun vs => [("many", vs.headD .non)] :=
  ⟨PySem.W.mg_of X G a, Z.kC, fI, T, bmB, B, newId, initId, bmN, Z, fun us hl => by
    obtain ⟨u, rfl⟩ : ∃ u, us = [u] := by
      match us, hl with
      | [u], _ => exact ⟨u, rfl⟩
    rw [h1, h2, h3] at ho
    refine ⟨fun y => if y = "many" then some u else none, fun {A} {R} {s} {x} {t0} K1 K2 K3 K4 _ K6 => x_init_many Z ho hcd ht K1 K2 K3 K4 K6, fun vs r f => ?_⟩
    cases r with
    | cons r1 r2 =>
      cases r2
      exact relO_put (fs := []) (mA := fun _ => none) r1 (fun _ => True.intro) f⟩
theorem xk_text {P : Program} {w : World} {K : PySem.W.Frag} {mg : Str → Option Value} {h : Heap} {x : Str} {C fI : Addr} {T : String} {bmB : List Value} {B newId initId : String} {bmN : List Value} {st : Stmt} {oc : Value} {od : Option Addr} {qual : Str} {doc pm : Value} {an : Option Addr} {cdv ct : Value} {osl : Array (Option Value)} {p1 p2 p3 q1 q2 q3 q4 r1 r2 r3 r4 : Pos} (X : K.In h) (G : h.Ns mainGlobals mg)
    (a : PySem.W.nsIn K mainGlobals x = some (some (.ref C))) (Z : XC K C fI T bmB B newId initId bmN) (ho : K.lookup fI = some ⟨oc, od, .func (PySem.W.fnOf "__init__" qual (defArgs st) (defBody st) (defScope st) .none .none doc pm an cdv ct), osl⟩) (hcd : PySem.W.codeIn K cdv qual = true) (ht : PySem.W.takerIn K C "line" = some none) (ht2 : PySem.W.takerIn K C "word" = some none)
    (h1 : defArgs st = iA2 "line" "word" p1 p2 p3 := by rfl) (h2 : defBody st = iB2 "line" "word" q1 q2 q3 q4 r1 r2 r3 r4 := by rfl) (h3 : defScope st = iS2 "line" "word" := by rfl) : XK1 P w K mg x C 2 fun vs => [("word", vs.getD 1 .non), ("line", vs.headD .non)] :=
  ⟨PySem.W.mg_of X G a, Z.kC, fI, T, bmB, B, newId, initId, bmN, Z, fun us hl => by
    obtain ⟨u, v, rfl⟩ : ∃ u v, us = [u, v] := by
      match us, hl with
      | [u, v], _ => exact ⟨u, v, rfl⟩
    rw [h1, h2, h3] at ho
    refine ⟨fun y => if y = "word" then some v else if y = "line" then some u else none, fun {A} {R} {s} {x} {t0} K1 K2 K3 K4 K5 K6 => x_init_text Z ho hcd ht ht2 K1 K2 K3 K4 K5 K6, fun vs r f => ?_⟩
    cases r with
    | cons r1 r2 =>
      cases r2 with
      | cons r2 r3 =>
        cases r3
        exact relO_put r2 (fun g => relO_put (fs := []) (mA := fun _ => none) r1 (fun _ => True.intro) g) f⟩
theorem tup_mk {K : PySem.W.Frag} {a : Addr} {dd : Option Addr} {i j : Int} {t1 t2 : Tok} {n : Nat} {sl : Array (Option Value)} (l : K.lookup a = some ⟨.type "tuple", dd, .seq #[.int i t1, .int j t2] n, sl⟩) : ∀ H, Dp K H (.ref a) (.tuple [.int i, .int j]) := fun H =>
  .tup (xs := [.int i, .int j]) (.inr ⟨_, _, n, l, rfl, rfl, by show 2 ≤ sizeLine; decide, .cons ⟨t1, rfl⟩ (.cons ⟨t2, rfl⟩ .nil)⟩) (.cons (.int i) (.cons (.int j) .nil))
theorem one_mk {K : PySem.W.Frag} {a b : Addr} {dd dd' : Option Addr} {i j : Int} {t1 t2 : Tok} {n n' : Nat} {sl sl' : Array (Option Value)} (l : K.lookup a = some ⟨.type "tuple", dd, .seq #[.ref b] n, sl⟩) (l' : K.lookup b = some ⟨.type "tuple", dd', .seq #[.int i t1, .int j t2] n', sl'⟩) : ∀ H, Dp K H (.ref a) (.tuple [.tuple [.int i, .int j]]) := fun H =>
  .tup (xs := [.ref b]) (.inr ⟨_, _, n, l, rfl, rfl, by show 1 ≤ sizeLine; decide, .cons rfl .nil⟩) (.cons (tup_mk l' H) .nil)
section
variable {K : PySem.W.Frag} {mg : Str → Option Value} {h : Heap} {x z : Str} {i j : Int} {t t1 t2 : Tok} {a b : Addr} {dd dd' : Option Addr} {n n' : Nat} {sl sl' : Array (Option Value)}
theorem ci_mk (X : K.In h) (G : h.Ns mainGlobals mg) (e : PySem.W.nsIn K mainGlobals x = some (some (.int i t))) : ∃ t, mg x = some (.int i t) := ⟨t, PySem.W.mg_of X G e⟩
theorem cz_mk (X : K.In h) (G : h.Ns mainGlobals mg) (e : PySem.W.nsIn K mainGlobals x = some (some (.str z t))) : ∃ t, mg x = some (.str z t) := ⟨t, PySem.W.mg_of X G e⟩
theorem cn_mk (X : K.In h) (G : h.Ns mainGlobals mg) (e : PySem.W.nsIn K mainGlobals x = some (some (.ref a))) (l : K.lookup a = some ⟨.type "tuple", dd, .seq #[.int 0 t1, .int 1 t2] n, sl⟩) : ∃ a, mg x = some (.ref a) ∧ ∀ H, Dp K H (.ref a) (fr 0) := ⟨a, PySem.W.mg_of X G e, tup_mk l⟩
theorem co_mk (X : K.In h) (G : h.Ns mainGlobals mg) (e : PySem.W.nsIn K mainGlobals x = some (some (.ref a))) (l : K.lookup a = some ⟨.type "tuple", dd, .seq #[.ref b] n, sl⟩) (l' : K.lookup b = some ⟨.type "tuple", dd', .seq #[.int 1 t1, .int 1 t2] n', sl'⟩) : ∃ a, mg x = some (.ref a) ∧ ∀ H, Dp K H (.ref a) (.tuple [fr 1]) := ⟨a, PySem.W.mg_of X G e, one_mk l l'⟩
end
/-- the end -/
theorem fin_F {P : Program} {w : World} {K : PySem.W.Frag} {mg : Str → Option Value} {fa nl tm mi bt bp ns be br bo re bf bl : Addr} (T : Tx K mg) (Z : ExF P w K mg nl tm mi bt bp ns be br bo re bf bl) (hfa : mg "law" = some (.ref fa)) :
    ∃ fd : FuncData, (∀ (s : Shared) (u : Value), BindsTo s fd ⟨[u], []⟩ [("_law_script", u)]) ∧ ∀ base : Heap, K.In base → base.Ns mainGlobals mg → FnOk P w K mg base CX0 12 fa fd ["_law_script"] (spLaw K) := by
  obtain ⟨f, fd, hm, F⟩ := T.d_law.ex
  have e := hfa.symm.trans hm
  cases e
  refine ⟨fd, fun s u => ?_, fun base _ _ => ok_law F T (ok_errors T Z) gf_ok eq_moms⟩
  obtain ⟨oc, od, kV, doc, pm, an, cdv, ct, osl, rfl, lk, hcd⟩ := F.ex
  exact BindsTo.of_eq (bd_law kV doc pm an cdv ct [u] rfl)
end RS

open PySem PySem.W PyProof.Rows
set_option maxRecDepth 100000
set_option maxHeartbeats 0
open_top head for PySem.Challenge.rw_rungshare_k06_whole_shares_and_errors
open PySem PySem.W PyProof.Rows
set_option maxRecDepth 100000 in
set_option maxHeartbeats 0 in
theorem PySem.Challenge.cw_rungshare_k06_whole_shares_and_errors_holds : PySem.Challenge.rw_rungshare_k06_whole_shares_and_errors.Holds := by
  refine head ?_
  refine L2.walk_ofK (n := 63) (k := 12) (x := "_law_script") (CX := L2.CX0) (sp := RS.spLaw) rfl (by decide) rfl ⟨rfl, by decide, by decide⟩ (fun w h Y => PySem.W.kIn_of Y) ?F ?hsp (fun _ _ _ _ z => z)
  case hsp => exact fun K H a ns hl _ hS => ⟨a, ns, rfl, hS, hl, fun _ => rfl⟩
  case F =>
    intro w mg fa h KX G hmg
    refine' RS.fin_F ?T ?Z hmg
    case T =>
      refine' RS.Tx.mk (mg_none_of KX G ?b_len)
        (mg_none_of KX G ?b_abs)
        (mg_none_of KX G ?b_int)
        (mg_none_of KX G ?b_bool)
        (mg_none_of KX G ?b_isinstance)
        (mg_none_of KX G ?b_tuple)
        (mg_none_of KX G ?b_list)
        (mg_none_of KX G ?b_all)
        (mg_none_of KX G ?b_max)
        (mg_none_of KX G ?b_min)
        (mg_none_of KX G ?b_range)
        (mg_none_of KX G ?b_enumerate)
        (mg_none_of KX G ?b_zip)
        (mg_none_of KX G ?b_ValueError)
        (mg_none_of KX G ?b_RuntimeError)
        (mg_none_of KX G ?b_OverflowError)
        (mg_none_of KX G ?b_KeyError)
        (RS.df_mk KX G ?a_is_integer ?l_is_integer ?c_is_integer ?k_is_integer)
        (RS.df_mk KX G ?a_common ?l_common ?c_common ?k_common)
        (RS.df_mk KX G ?a_made ?l_made ?c_made ?k_made)
        (RS.df_mk KX G ?a_is_fraction ?l_is_fraction ?c_is_fraction ?k_is_fraction)
        (RS.df_mk KX G ?a_whole ?l_whole ?c_whole ?k_whole)
        (RS.df_mk KX G ?a_add ?l_add ?c_add ?k_add)
        (RS.df_mk KX G ?a_sub ?l_sub ?c_sub ?k_sub)
        (RS.df_mk KX G ?a_mul ?l_mul ?c_mul ?k_mul)
        (RS.df_mk KX G ?a_div ?l_div ?c_div ?k_div)
        (RS.df_mk KX G ?a_is_under ?l_is_under ?c_is_under ?k_is_under)
        (RS.df_mk KX G ?a_sum_in ?l_sum_in ?c_sum_in ?k_sum_in)
        (RS.df_mk KX G ?a_need_fraction ?l_need_fraction ?c_need_fraction ?k_need_fraction)
        (RS.df_mk KX G ?a_power_in ?l_power_in ?c_power_in ?k_power_in)
        (RS.df_mk KX G ?a_are_fractions ?l_are_fractions ?c_are_fractions ?k_are_fractions)
        (RS.df_mk KX G ?a_is_poly ?l_is_poly ?c_is_poly ?k_is_poly)
        (RS.df_mk KX G ?a_need_poly ?l_need_poly ?c_need_poly ?k_need_poly)
        (RS.df_mk KX G ?a_trimmed ?l_trimmed ?c_trimmed ?k_trimmed)
        (RS.df_mk KX G ?a_part_of ?l_part_of ?c_part_of ?k_part_of)
        (RS.df_mk KX G ?a_sum_of ?l_sum_of ?c_sum_of ?k_sum_of)
        (RS.df_mk KX G ?a_less_of ?l_less_of ?c_less_of ?k_less_of)
        (RS.df_mk KX G ?a_times_of ?l_times_of ?c_times_of ?k_times_of)
        (RS.df_mk KX G ?a_raised_of ?l_raised_of ?c_raised_of ?k_raised_of)
        (RS.df_mk KX G ?a_product_of ?l_product_of ?c_product_of ?k_product_of)
        (RS.df_mk KX G ?a_worth_of ?l_worth_of ?c_worth_of ?k_worth_of)
        (RS.df_mk KX G ?a_worth_at ?l_worth_at ?c_worth_at ?k_worth_at)
        (RS.df_mk KX G ?a_is_row ?l_is_row ?c_is_row ?k_is_row)
        (RS.df_mk KX G ?a_need_row ?l_need_row ?c_need_row ?k_need_row)
        (RS.df_mk KX G ?a_is_pair ?l_is_pair ?c_is_pair ?k_is_pair)
        (RS.df_mk KX G ?a_are_pairs ?l_are_pairs ?c_are_pairs ?k_are_pairs)
        (RS.df_mk KX G ?a_is_share ?l_is_share ?c_is_share ?k_is_share)
        (RS.df_mk KX G ?a_need_share ?l_need_share ?c_need_share ?k_need_share)
        (RS.df_mk KX G ?a_need_top ?l_need_top ?c_need_top ?k_need_top)
        (RS.df_mk KX G ?a_moments_in ?l_moments_in ?c_moments_in ?k_moments_in)
        (RS.df_mk KX G ?a_moments ?l_moments ?c_moments ?k_moments)
        (RS.df_mk KX G ?a_sum_for ?l_sum_for ?c_sum_for ?k_sum_for)
        (RS.df_mk KX G ?a_is_form ?l_is_form ?c_is_form ?k_is_form)
        (RS.df_mk KX G ?a_is_ended_in ?l_is_ended_in ?c_is_ended_in ?k_is_ended_in)
        (RS.df_mk KX G ?a_is_ladder ?l_is_ladder ?c_is_ladder ?k_is_ladder)
        (RS.df_mk KX G ?a_need_ladder ?l_need_ladder ?c_need_ladder ?k_need_ladder)
        (RS.df_mk KX G ?a_is_ended ?l_is_ended ?c_is_ended ?k_is_ended)
        (RS.df_mk KX G ?a_next_rung ?l_next_rung ?c_next_rung ?k_next_rung)
        (RS.df_mk KX G ?a_rungs_in ?l_rungs_in ?c_rungs_in ?k_rungs_in)
        (RS.df_mk KX G ?a_rung_polys ?l_rung_polys ?c_rung_polys ?k_rung_polys)
        (RS.df_mk KX G ?a_stepped ?l_stepped ?c_stepped ?k_stepped)
        (RS.df_mk KX G ?a_row_in ?l_row_in ?c_row_in ?k_row_in)
        (RS.df_mk KX G ?a_row_of ?l_row_of ?c_row_of ?k_row_of)
        (RS.df_mk KX G ?a_square_sum ?l_square_sum ?c_square_sum ?k_square_sum)
        (RS.df_mk KX G ?a_level_by ?l_level_by ?c_level_by ?k_level_by)
        (RS.df_mk KX G ?a_built ?l_built ?c_built ?k_built)
        (RS.df_mk KX G ?a_misfits ?l_misfits ?c_misfits ?k_misfits)
        (RS.df_mk KX G ?a_paper_in ?l_paper_in ?c_paper_in ?k_paper_in)
        (RS.df_mk KX G ?a_is_of_share ?l_is_of_share ?c_is_of_share ?k_is_of_share)
        (RS.df_mk KX G ?a_need_of_share ?l_need_of_share ?c_need_of_share ?k_need_of_share)
        (RS.df_mk KX G ?a_ladder_of ?l_ladder_of ?c_ladder_of ?k_ladder_of)
        (RS.df_mk KX G ?a__law_mixed ?l__law_mixed ?c__law_mixed ?k__law_mixed)
        (RS.df_mk KX G ?a__law_begin ?l__law_begin ?c__law_begin ?k__law_begin)
        (RS.df_mk KX G ?a__law_draw ?l__law_draw ?c__law_draw ?k__law_draw)
        (RS.df_mk KX G ?a__law_ratio ?l__law_ratio ?c__law_ratio ?k__law_ratio)
        (RS.df_mk KX G ?a__law_plus ?l__law_plus ?c__law_plus ?k__law_plus)
        (RS.df_mk KX G ?a__law_times ?l__law_times ?c__law_times ?k__law_times)
        (RS.df_mk KX G ?a__law_under ?l__law_under ?c__law_under ?k__law_under)
        (RS.df_mk KX G ?a__law_sum ?l__law_sum ?c__law_sum ?k__law_sum)
        (RS.df_mk KX G ?a__law_share ?l__law_share ?c__law_share ?k__law_share)
        (RS.df_mk KX G ?a__law_power ?l__law_power ?c__law_power ?k__law_power)
        (RS.df_mk KX G ?a__law_moments ?l__law_moments ?c__law_moments ?k__law_moments)
        (RS.df_mk KX G ?a__law_errors_good ?l__law_errors_good ?c__law_errors_good ?k__law_errors_good)
        (RS.df_mk KX G ?a__law_good ?l__law_good ?c__law_good ?k__law_good)
        (RS.df_mk KX G ?a_law ?l_law ?c_law ?k_law)
        (RS.ci_mk KX G ?c_MOST_PARTS)
        (RS.ci_mk KX G ?c_MOST_MOMENTS)
        (RS.ci_mk KX G ?c_MOST_PAIRS)
        (RS.ci_mk KX G ?c_MOST_OPEN)
        (RS.ci_mk KX G ?c_MOST_ENDED)
        (RS.cz_mk KX G ?c_LADDER)
        (RS.cz_mk KX G ?c_SQUARE)
        (RS.cz_mk KX G ?c_REST)
        (RS.cn_mk KX G ?n1 ?n2)
        (RS.co_mk KX G ?o1 ?o2 ?o3)
      (case b_len => k_is)
      (case b_abs => k_is)
      (case b_int => k_is)
      (case b_bool => k_is)
      (case b_isinstance => k_is)
      (case b_tuple => k_is)
      (case b_list => k_is)
      (case b_all => k_is)
      (case b_max => k_is)
      (case b_min => k_is)
      (case b_range => k_is)
      (case b_enumerate => k_is)
      (case b_zip => k_is)
      (case b_ValueError => k_is)
      (case b_RuntimeError => k_is)
      (case b_OverflowError => k_is)
      (case b_KeyError => k_is)
      (case a_is_integer => k_is)
      (case l_is_integer => k_is)
      (case c_is_integer => k_is)
      (case k_is_integer => k_is)
      (case a_common => k_is)
      (case l_common => k_is)
      (case c_common => k_is)
      (case k_common => k_is)
      (case a_made => k_is)
      (case l_made => k_is)
      (case c_made => k_is)
      (case k_made => k_is)
      (case a_is_fraction => k_is)
      (case l_is_fraction => k_is)
      (case c_is_fraction => k_is)
      (case k_is_fraction => k_is)
      (case a_whole => k_is)
      (case l_whole => k_is)
      (case c_whole => k_is)
      (case k_whole => k_is)
      (case a_add => k_is)
      (case l_add => k_is)
      (case c_add => k_is)
      (case k_add => k_is)
      (case a_sub => k_is)
      (case l_sub => k_is)
      (case c_sub => k_is)
      (case k_sub => k_is)
      (case a_mul => k_is)
      (case l_mul => k_is)
      (case c_mul => k_is)
      (case k_mul => k_is)
      (case a_div => k_is)
      (case l_div => k_is)
      (case c_div => k_is)
      (case k_div => k_is)
      (case a_is_under => k_is)
      (case l_is_under => k_is)
      (case c_is_under => k_is)
      (case k_is_under => k_is)
      (case a_sum_in => k_is)
      (case l_sum_in => k_is)
      (case c_sum_in => k_is)
      (case k_sum_in => k_is)
      (case a_need_fraction => k_is)
      (case l_need_fraction => k_is)
      (case c_need_fraction => k_is)
      (case k_need_fraction => k_is)
      (case a_power_in => k_is)
      (case l_power_in => k_is)
      (case c_power_in => k_is)
      (case k_power_in => k_is)
      (case a_are_fractions => k_is)
      (case l_are_fractions => k_is)
      (case c_are_fractions => k_is)
      (case k_are_fractions => k_is)
      (case a_is_poly => k_is)
      (case l_is_poly => k_is)
      (case c_is_poly => k_is)
      (case k_is_poly => k_is)
      (case a_need_poly => k_is)
      (case l_need_poly => k_is)
      (case c_need_poly => k_is)
      (case k_need_poly => k_is)
      (case a_trimmed => k_is)
      (case l_trimmed => k_is)
      (case c_trimmed => k_is)
      (case k_trimmed => k_is)
      (case a_part_of => k_is)
      (case l_part_of => k_is)
      (case c_part_of => k_is)
      (case k_part_of => k_is)
      (case a_sum_of => k_is)
      (case l_sum_of => k_is)
      (case c_sum_of => k_is)
      (case k_sum_of => k_is)
      (case a_less_of => k_is)
      (case l_less_of => k_is)
      (case c_less_of => k_is)
      (case k_less_of => k_is)
      (case a_times_of => k_is)
      (case l_times_of => k_is)
      (case c_times_of => k_is)
      (case k_times_of => k_is)
      (case a_raised_of => k_is)
      (case l_raised_of => k_is)
      (case c_raised_of => k_is)
      (case k_raised_of => k_is)
      (case a_product_of => k_is)
      (case l_product_of => k_is)
      (case c_product_of => k_is)
      (case k_product_of => k_is)
      (case a_worth_of => k_is)
      (case l_worth_of => k_is)
      (case c_worth_of => k_is)
      (case k_worth_of => k_is)
      (case a_worth_at => k_is)
      (case l_worth_at => k_is)
      (case c_worth_at => k_is)
      (case k_worth_at => k_is)
      (case a_is_row => k_is)
      (case l_is_row => k_is)
      (case c_is_row => k_is)
      (case k_is_row => k_is)
      (case a_need_row => k_is)
      (case l_need_row => k_is)
      (case c_need_row => k_is)
      (case k_need_row => k_is)
      (case a_is_pair => k_is)
      (case l_is_pair => k_is)
      (case c_is_pair => k_is)
      (case k_is_pair => k_is)
      (case a_are_pairs => k_is)
      (case l_are_pairs => k_is)
      (case c_are_pairs => k_is)
      (case k_are_pairs => k_is)
      (case a_is_share => k_is)
      (case l_is_share => k_is)
      (case c_is_share => k_is)
      (case k_is_share => k_is)
      (case a_need_share => k_is)
      (case l_need_share => k_is)
      (case c_need_share => k_is)
      (case k_need_share => k_is)
      (case a_need_top => k_is)
      (case l_need_top => k_is)
      (case c_need_top => k_is)
      (case k_need_top => k_is)
      (case a_moments_in => k_is)
      (case l_moments_in => k_is)
      (case c_moments_in => k_is)
      (case k_moments_in => k_is)
      (case a_moments => k_is)
      (case l_moments => k_is)
      (case c_moments => k_is)
      (case k_moments => k_is)
      (case a_sum_for => k_is)
      (case l_sum_for => k_is)
      (case c_sum_for => k_is)
      (case k_sum_for => k_is)
      (case a_is_form => k_is)
      (case l_is_form => k_is)
      (case c_is_form => k_is)
      (case k_is_form => k_is)
      (case a_is_ended_in => k_is)
      (case l_is_ended_in => k_is)
      (case c_is_ended_in => k_is)
      (case k_is_ended_in => k_is)
      (case a_is_ladder => k_is)
      (case l_is_ladder => k_is)
      (case c_is_ladder => k_is)
      (case k_is_ladder => k_is)
      (case a_need_ladder => k_is)
      (case l_need_ladder => k_is)
      (case c_need_ladder => k_is)
      (case k_need_ladder => k_is)
      (case a_is_ended => k_is)
      (case l_is_ended => k_is)
      (case c_is_ended => k_is)
      (case k_is_ended => k_is)
      (case a_next_rung => k_is)
      (case l_next_rung => k_is)
      (case c_next_rung => k_is)
      (case k_next_rung => k_is)
      (case a_rungs_in => k_is)
      (case l_rungs_in => k_is)
      (case c_rungs_in => k_is)
      (case k_rungs_in => k_is)
      (case a_rung_polys => k_is)
      (case l_rung_polys => k_is)
      (case c_rung_polys => k_is)
      (case k_rung_polys => k_is)
      (case a_stepped => k_is)
      (case l_stepped => k_is)
      (case c_stepped => k_is)
      (case k_stepped => k_is)
      (case a_row_in => k_is)
      (case l_row_in => k_is)
      (case c_row_in => k_is)
      (case k_row_in => k_is)
      (case a_row_of => k_is)
      (case l_row_of => k_is)
      (case c_row_of => k_is)
      (case k_row_of => k_is)
      (case a_square_sum => k_is)
      (case l_square_sum => k_is)
      (case c_square_sum => k_is)
      (case k_square_sum => k_is)
      (case a_level_by => k_is)
      (case l_level_by => k_is)
      (case c_level_by => k_is)
      (case k_level_by => k_is)
      (case a_built => k_is)
      (case l_built => k_is)
      (case c_built => k_is)
      (case k_built => k_is)
      (case a_misfits => k_is)
      (case l_misfits => k_is)
      (case c_misfits => k_is)
      (case k_misfits => k_is)
      (case a_paper_in => k_is)
      (case l_paper_in => k_is)
      (case c_paper_in => k_is)
      (case k_paper_in => k_is)
      (case a_is_of_share => k_is)
      (case l_is_of_share => k_is)
      (case c_is_of_share => k_is)
      (case k_is_of_share => k_is)
      (case a_need_of_share => k_is)
      (case l_need_of_share => k_is)
      (case c_need_of_share => k_is)
      (case k_need_of_share => k_is)
      (case a_ladder_of => k_is)
      (case l_ladder_of => k_is)
      (case c_ladder_of => k_is)
      (case k_ladder_of => k_is)
      (case a__law_mixed => k_is)
      (case l__law_mixed => k_is)
      (case c__law_mixed => k_is)
      (case k__law_mixed => k_is)
      (case a__law_begin => k_is)
      (case l__law_begin => k_is)
      (case c__law_begin => k_is)
      (case k__law_begin => k_is)
      (case a__law_draw => k_is)
      (case l__law_draw => k_is)
      (case c__law_draw => k_is)
      (case k__law_draw => k_is)
      (case a__law_ratio => k_is)
      (case l__law_ratio => k_is)
      (case c__law_ratio => k_is)
      (case k__law_ratio => k_is)
      (case a__law_plus => k_is)
      (case l__law_plus => k_is)
      (case c__law_plus => k_is)
      (case k__law_plus => k_is)
      (case a__law_times => k_is)
      (case l__law_times => k_is)
      (case c__law_times => k_is)
      (case k__law_times => k_is)
      (case a__law_under => k_is)
      (case l__law_under => k_is)
      (case c__law_under => k_is)
      (case k__law_under => k_is)
      (case a__law_sum => k_is)
      (case l__law_sum => k_is)
      (case c__law_sum => k_is)
      (case k__law_sum => k_is)
      (case a__law_share => k_is)
      (case l__law_share => k_is)
      (case c__law_share => k_is)
      (case k__law_share => k_is)
      (case a__law_power => k_is)
      (case l__law_power => k_is)
      (case c__law_power => k_is)
      (case k__law_power => k_is)
      (case a__law_moments => k_is)
      (case l__law_moments => k_is)
      (case c__law_moments => k_is)
      (case k__law_moments => k_is)
      (case a__law_errors_good => k_is)
      (case l__law_errors_good => k_is)
      (case c__law_errors_good => k_is)
      (case k__law_errors_good => k_is)
      (case a__law_good => k_is)
      (case l__law_good => k_is)
      (case c__law_good => k_is)
      (case k__law_good => k_is)
      (case a_law => k_is)
      (case l_law => k_is)
      (case c_law => k_is)
      (case k_law => k_is)
      (case c_MOST_PARTS => k_is)
      (case c_MOST_MOMENTS => k_is)
      (case c_MOST_PAIRS => k_is)
      (case c_MOST_OPEN => k_is)
      (case c_MOST_ENDED => k_is)
      (case c_LADDER => k_is)
      (case c_SQUARE => k_is)
      (case c_REST => k_is)
      (case n1 => k_is)
      (case n2 => k_is)
      (case o1 => k_is)
      (case o2 => k_is)
      (case o3 => k_is)
    case Z =>
      refine' RS.ExF.mk (RS.xk_many (st := RS.ini 14) KX G ?nl_a (PySem.RsX.XC.mk (T := "RuntimeError") (bmB := [.type "RuntimeError", .type "Exception", .type "BaseException", .type "object"]) (B := "RuntimeError") (newId := "RuntimeError.__new__") (initId := "RuntimeError.__init__") (bmN := [.type "RuntimeError", .type "Exception", .type "BaseException", .type "object"]) PySem.F.excBase_RuntimeError PySem.F.store_RuntimeError (by decide +kernel) (by decide +kernel) (by decide +kernel) ?nl_q ?nl_ov ?nl_hd ?nl_sa ?nl_kC ?nl_iC ?nl_tI) ?nl_l ?nl_c ?nl_t)
        (RS.xk_most (st := RS.ini 12) KX G ?tm_a (PySem.RsX.XC.mk (T := "OverflowError") (bmB := [.type "OverflowError", .type "ArithmeticError", .type "Exception", .type "BaseException", .type "object"]) (B := "OverflowError") (newId := "OverflowError.__new__") (initId := "OverflowError.__init__") (bmN := [.type "OverflowError", .type "ArithmeticError", .type "Exception", .type "BaseException", .type "object"]) PySem.F.excBase_OverflowError PySem.F.store_OverflowError (by decide +kernel) (by decide +kernel) (by decide +kernel) ?tm_q ?tm_ov ?tm_hd ?tm_sa ?tm_kC ?tm_iC ?tm_tI) ?tm_l ?tm_c ?tm_t)
        (RS.xk_given (st := RS.ini 13) KX G ?mi_a (PySem.RsX.XC.mk (T := "KeyError") (bmB := [.type "KeyError", .type "LookupError", .type "Exception", .type "BaseException", .type "object"]) (B := "LookupError") (newId := "LookupError.__new__") (initId := "LookupError.__init__") (bmN := [.type "LookupError", .type "Exception", .type "BaseException", .type "object"]) PySem.F.excBase_LookupError PySem.F.x_store_KeyError (by decide +kernel) (by decide +kernel) (by decide +kernel) ?mi_q ?mi_ov ?mi_hd ?mi_sa ?mi_kC ?mi_iC ?mi_tI) ?mi_l ?mi_c ?mi_t)
        (RS.xk_text (st := RS.ini 5) KX G ?bt_a (PySem.RsX.XC.mk (T := "ValueError") (bmB := [.type "ValueError", .type "Exception", .type "BaseException", .type "object"]) (B := "ValueError") (newId := "ValueError.__new__") (initId := "ValueError.__init__") (bmN := [.type "ValueError", .type "Exception", .type "BaseException", .type "object"]) PySem.F.excBase_ValueError PySem.F.store_ValueError (by decide +kernel) (by decide +kernel) (by decide +kernel) ?bt_q ?bt_ov ?bt_hd ?bt_sa ?bt_kC ?bt_iC ?bt_tI) ?bt_l ?bt_c ?bt_t ?bt_t2)
        (RS.xk_part (st := RS.ini 2) KX G ?bp_a (PySem.RsX.XC.mk (T := "ValueError") (bmB := [.type "ValueError", .type "Exception", .type "BaseException", .type "object"]) (B := "ValueError") (newId := "ValueError.__new__") (initId := "ValueError.__init__") (bmN := [.type "ValueError", .type "Exception", .type "BaseException", .type "object"]) PySem.F.excBase_ValueError PySem.F.store_ValueError (by decide +kernel) (by decide +kernel) (by decide +kernel) ?bp_q ?bp_ov ?bp_hd ?bp_sa ?bp_kC ?bp_iC ?bp_tI) ?bp_l ?bp_c ?bp_t)
        (RS.xk_paper (st := RS.ini 3) KX G ?ns_a (PySem.RsX.XC.mk (T := "ValueError") (bmB := [.type "ValueError", .type "Exception", .type "BaseException", .type "object"]) (B := "ValueError") (newId := "ValueError.__new__") (initId := "ValueError.__init__") (bmN := [.type "ValueError", .type "Exception", .type "BaseException", .type "object"]) PySem.F.excBase_ValueError PySem.F.store_ValueError (by decide +kernel) (by decide +kernel) (by decide +kernel) ?ns_q ?ns_ov ?ns_hd ?ns_sa ?ns_kC ?ns_iC ?ns_tI) ?ns_l ?ns_c ?ns_t)
        (RS.xk_path (st := RS.ini 4) KX G ?be_a (PySem.RsX.XC.mk (T := "ValueError") (bmB := [.type "ValueError", .type "Exception", .type "BaseException", .type "object"]) (B := "ValueError") (newId := "ValueError.__new__") (initId := "ValueError.__init__") (bmN := [.type "ValueError", .type "Exception", .type "BaseException", .type "object"]) PySem.F.excBase_ValueError PySem.F.store_ValueError (by decide +kernel) (by decide +kernel) (by decide +kernel) ?be_q ?be_ov ?be_hd ?be_sa ?be_kC ?be_iC ?be_tI) ?be_l ?be_c ?be_t)
        (RS.xk_given (st := RS.ini 6) KX G ?br_a (PySem.RsX.XC.mk (T := "ValueError") (bmB := [.type "ValueError", .type "Exception", .type "BaseException", .type "object"]) (B := "ValueError") (newId := "ValueError.__new__") (initId := "ValueError.__init__") (bmN := [.type "ValueError", .type "Exception", .type "BaseException", .type "object"]) PySem.F.excBase_ValueError PySem.F.store_ValueError (by decide +kernel) (by decide +kernel) (by decide +kernel) ?br_q ?br_ov ?br_hd ?br_sa ?br_kC ?br_iC ?br_tI) ?br_l ?br_c ?br_t)
        (RS.xk_given (st := RS.ini 9) KX G ?bo_a (PySem.RsX.XC.mk (T := "ValueError") (bmB := [.type "ValueError", .type "Exception", .type "BaseException", .type "object"]) (B := "ValueError") (newId := "ValueError.__new__") (initId := "ValueError.__init__") (bmN := [.type "ValueError", .type "Exception", .type "BaseException", .type "object"]) PySem.F.excBase_ValueError PySem.F.store_ValueError (by decide +kernel) (by decide +kernel) (by decide +kernel) ?bo_q ?bo_ov ?bo_hd ?bo_sa ?bo_kC ?bo_iC ?bo_tI) ?bo_l ?bo_c ?bo_t)
        (RS.xa_mk ?nl_x0 ?nl_x1 ?nl_x2 ?nl_x3 ?nl_x4 ?nl_x5 ?nl_x6 ?nl_x7 ?nl_x8)
        (RS.xa_mk ?tm_x0 ?tm_x1 ?tm_x2 ?tm_x3 ?tm_x4 ?tm_x5 ?tm_x6 ?tm_x7 ?tm_x8)
        (RS.xa_mk ?mi_x0 ?mi_x1 ?mi_x2 ?mi_x3 ?mi_x4 ?mi_x5 ?mi_x6 ?mi_x7 ?mi_x8)
        (RS.xa_mk ?bt_x0 ?bt_x1 ?bt_x2 ?bt_x3 ?bt_x4 ?bt_x5 ?bt_x6 ?bt_x7 ?bt_x8)
        (RS.xa_mk ?bp_x0 ?bp_x1 ?bp_x2 ?bp_x3 ?bp_x4 ?bp_x5 ?bp_x6 ?bp_x7 ?bp_x8)
        (RS.xa_mk ?ns_x0 ?ns_x1 ?ns_x2 ?ns_x3 ?ns_x4 ?ns_x5 ?ns_x6 ?ns_x7 ?ns_x8)
        (RS.xa_mk ?be_x0 ?be_x1 ?be_x2 ?be_x3 ?be_x4 ?be_x5 ?be_x6 ?be_x7 ?be_x8)
        (RS.xa_mk ?br_x0 ?br_x1 ?br_x2 ?br_x3 ?br_x4 ?br_x5 ?br_x6 ?br_x7 ?br_x8)
        (RS.xa_mk ?bo_x0 ?bo_x1 ?bo_x2 ?bo_x3 ?bo_x4 ?bo_x5 ?bo_x6 ?bo_x7 ?bo_x8)
        (RS.xa_mk ?re_x0 ?re_x1 ?re_x2 ?re_x3 ?re_x4 ?re_x5 ?re_x6 ?re_x7 ?re_x8)
        (?f_nl)
        (?f_tm)
        (?f_mi)
        (?f_bt)
        (?f_bu)
        (?f_bp)
        (?f_ns)
        (?f_be)
        (?f_br)
        (?f_bo)
        (mg_of KX G ?g_re)
        (?q_re)
        (?k_re)
        (mg_of KX G ?g_bf)
        (mg_of KX G ?g_bl)
        (?k_nl)
        (?k_tm)
        (?k_mi)
        (?r_nl)
        (?r_tm)
        (?r_mi)
        (?r_bp)
        (?r_ns)
        (?r_be)
        (?r_br)
        (?r_bt)
        (?v_bp)
        (?v_ns)
        (?v_be)
        (?v_br)
        (?v_bt)
        (?o_bp)
        (?o_ns)
        (?o_br)
        (?v_re)
        (?o_re)
      (case nl_a => k_is)
      (case tm_a => k_is)
      (case mi_a => k_is)
      (case bt_a => k_is)
      (case bp_a => k_is)
      (case ns_a => k_is)
      (case be_a => k_is)
      (case br_a => k_is)
      (case bo_a => k_is)
      (case g_re => k_is)
      (case g_bf => k_is)
      (case g_bl => k_is)
      (case nl_iC => k_is)
      (case tm_iC => k_is)
      (case mi_iC => k_is)
      (case bt_iC => k_is)
      (case bp_iC => k_is)
      (case ns_iC => k_is)
      (case be_iC => k_is)
      (case br_iC => k_is)
      (case bo_iC => k_is)
      (case nl_l => k_is)
      (case tm_l => k_is)
      (case mi_l => k_is)
      (case bt_l => k_is)
      (case bp_l => k_is)
      (case ns_l => k_is)
      (case be_l => k_is)
      (case br_l => k_is)
      (case bo_l => k_is)
      (case nl_q => kx_is)
      (case nl_ov => kx_is)
      (case nl_hd => k_is)
      (case nl_sa => k_is)
      (case nl_kC => k_is)
      (case nl_tI => k_is)
      (case nl_c => k_is)
      (case nl_t => k_is)
      (case tm_q => kx_is)
      (case tm_ov => kx_is)
      (case tm_hd => k_is)
      (case tm_sa => k_is)
      (case tm_kC => k_is)
      (case tm_tI => k_is)
      (case tm_c => k_is)
      (case tm_t => k_is)
      (case mi_q => kx_is)
      (case mi_ov => kx_is)
      (case mi_hd => k_is)
      (case mi_sa => k_is)
      (case mi_kC => k_is)
      (case mi_tI => k_is)
      (case mi_c => k_is)
      (case mi_t => k_is)
      (case bt_q => kx_is)
      (case bt_ov => kx_is)
      (case bt_hd => k_is)
      (case bt_sa => k_is)
      (case bt_kC => k_is)
      (case bt_tI => k_is)
      (case bt_c => k_is)
      (case bt_t => k_is)
      (case bt_t2 => k_is)
      (case bp_q => kx_is)
      (case bp_ov => kx_is)
      (case bp_hd => k_is)
      (case bp_sa => k_is)
      (case bp_kC => k_is)
      (case bp_tI => k_is)
      (case bp_c => k_is)
      (case bp_t => k_is)
      (case ns_q => kx_is)
      (case ns_ov => kx_is)
      (case ns_hd => k_is)
      (case ns_sa => k_is)
      (case ns_kC => k_is)
      (case ns_tI => k_is)
      (case ns_c => k_is)
      (case ns_t => k_is)
      (case be_q => kx_is)
      (case be_ov => kx_is)
      (case be_hd => k_is)
      (case be_sa => k_is)
      (case be_kC => k_is)
      (case be_tI => k_is)
      (case be_c => k_is)
      (case be_t => k_is)
      (case br_q => kx_is)
      (case br_ov => kx_is)
      (case br_hd => k_is)
      (case br_sa => k_is)
      (case br_kC => k_is)
      (case br_tI => k_is)
      (case br_c => k_is)
      (case br_t => k_is)
      (case bo_q => kx_is)
      (case bo_ov => kx_is)
      (case bo_hd => k_is)
      (case bo_sa => k_is)
      (case bo_kC => k_is)
      (case bo_tI => k_is)
      (case bo_c => k_is)
      (case bo_t => k_is)
      (case nl_x0 => k_is)
      (case nl_x1 => k_is)
      (case nl_x2 => k_is)
      (case nl_x3 => k_is)
      (case nl_x4 => k_is)
      (case nl_x5 => k_is)
      (case nl_x6 => k_is)
      (case nl_x7 => k_is)
      (case nl_x8 => k_is)
      (case tm_x0 => k_is)
      (case tm_x1 => k_is)
      (case tm_x2 => k_is)
      (case tm_x3 => k_is)
      (case tm_x4 => k_is)
      (case tm_x5 => k_is)
      (case tm_x6 => k_is)
      (case tm_x7 => k_is)
      (case tm_x8 => k_is)
      (case mi_x0 => k_is)
      (case mi_x1 => k_is)
      (case mi_x2 => k_is)
      (case mi_x3 => k_is)
      (case mi_x4 => k_is)
      (case mi_x5 => k_is)
      (case mi_x6 => k_is)
      (case mi_x7 => k_is)
      (case mi_x8 => k_is)
      (case bt_x0 => k_is)
      (case bt_x1 => k_is)
      (case bt_x2 => k_is)
      (case bt_x3 => k_is)
      (case bt_x4 => k_is)
      (case bt_x5 => k_is)
      (case bt_x6 => k_is)
      (case bt_x7 => k_is)
      (case bt_x8 => k_is)
      (case bp_x0 => k_is)
      (case bp_x1 => k_is)
      (case bp_x2 => k_is)
      (case bp_x3 => k_is)
      (case bp_x4 => k_is)
      (case bp_x5 => k_is)
      (case bp_x6 => k_is)
      (case bp_x7 => k_is)
      (case bp_x8 => k_is)
      (case ns_x0 => k_is)
      (case ns_x1 => k_is)
      (case ns_x2 => k_is)
      (case ns_x3 => k_is)
      (case ns_x4 => k_is)
      (case ns_x5 => k_is)
      (case ns_x6 => k_is)
      (case ns_x7 => k_is)
      (case ns_x8 => k_is)
      (case be_x0 => k_is)
      (case be_x1 => k_is)
      (case be_x2 => k_is)
      (case be_x3 => k_is)
      (case be_x4 => k_is)
      (case be_x5 => k_is)
      (case be_x6 => k_is)
      (case be_x7 => k_is)
      (case be_x8 => k_is)
      (case br_x0 => k_is)
      (case br_x1 => k_is)
      (case br_x2 => k_is)
      (case br_x3 => k_is)
      (case br_x4 => k_is)
      (case br_x5 => k_is)
      (case br_x6 => k_is)
      (case br_x7 => k_is)
      (case br_x8 => k_is)
      (case bo_x0 => k_is)
      (case bo_x1 => k_is)
      (case bo_x2 => k_is)
      (case bo_x3 => k_is)
      (case bo_x4 => k_is)
      (case bo_x5 => k_is)
      (case bo_x6 => k_is)
      (case bo_x7 => k_is)
      (case bo_x8 => k_is)
      (case re_x0 => k_is)
      (case re_x1 => k_is)
      (case re_x2 => k_is)
      (case re_x3 => k_is)
      (case re_x4 => k_is)
      (case re_x5 => k_is)
      (case re_x6 => k_is)
      (case re_x7 => k_is)
      (case re_x8 => k_is)
      (case f_nl => k_is)
      (case f_tm => k_is)
      (case f_mi => k_is)
      (case f_bt => k_is)
      (case f_bu => k_is)
      (case f_bp => k_is)
      (case f_ns => k_is)
      (case f_be => k_is)
      (case f_br => k_is)
      (case f_bo => k_is)
      (case q_re => k_exc)
      (case k_re => k_is)
      (case k_nl => kit_is)
      (case k_tm => kit_is)
      (case k_mi => kit_is)
      (case r_nl => kit_is)
      (case r_tm => kit_is)
      (case r_mi => kit_is)
      (case r_bp => kit_is)
      (case r_ns => kit_is)
      (case r_be => kit_is)
      (case r_br => kit_is)
      (case r_bt => kit_is)
      (case v_bp => kit_is)
      (case v_ns => kit_is)
      (case v_be => kit_is)
      (case v_br => kit_is)
      (case v_bt => kit_is)
      (case o_bp => kit_is)
      (case o_ns => kit_is)
      (case o_br => kit_is)
      (case v_re => kit_is)
      (case o_re => kit_is)
