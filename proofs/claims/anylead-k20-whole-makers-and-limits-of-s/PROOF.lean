import PyProof.Rows.All
import Wide.All
import OpenK.AllK
import Wide.FinOn
import KE.KStateDown
import KE.KOpsOwn
import KE.GoesMore
import KE.GoesEnum
import HandS.ForMost
import HandS.Exc
import HandS.ExcOwn
import HandS.ExcInit
import HandS.TryOnly
import HandS.TryMany
import HandS.TupAny
import HandS.TupMul
import HandS.Style
import HandS.IsInst
import HandS.Defaults
import HandS.Lambda
import HandS.Nested
import HandS.Flow
import KE.DatumOrd
import PySem.Challenge.RW_anylead_k20_whole_makers_and_limits_of_s
import HandS.ExcField
import HandS.WordsExc
import HandS.Dict
import HandS.EndTab
import HandS.Head0
import HandS.Head1
import HandS.Head2
import HandS.HeadEnd
import HandS.HeadHook1
import HandS.HeadHook2
import HandS.HeadHook3
import HandS.HeadHook4
import HandS.HeadWalk
set_option Elab.async false
set_option linter.all false
set_option maxRecDepth 100000
set_option pp.maxSteps 300
set_option maxHeartbeats 4000000
/-! Rules of our own, first part: ranges of any ints, enumerate of a tuple, own operators, tuples. -/
namespace Rk
open PySem PySem.Spec PyProof.Rows L2

/-! ### range of any ints -/
theorem turn_long {P : Program} {w : World} {K : PySem.W.Frag} {tg : Expr} (it : Addr) (lo : Int) (n : Nat) : Turn P w K tg (Itr lo n) [it] it (fun i h => IsLongIter h it (lo + (i : Nat) * 1) ((n : Int) - (i : Nat)) 1) where
  mem := by simp
  obj := fun i h st b hb => by
    have e : b = it := by simpa using hb
    subst e
    exact ⟨_, st, fun v z => by
      have z' : Data.fields _ = Data.cell v := z
      cases z'⟩
  keep := fun i h h' st k => k it (by simp) _ st
  item := by
    intro X hP hw hK hc i pins s σ H E I hf st hg
    subst hP hw hK
    obtain ⟨f0, f1, f2, f3, f4, f5⟩ := hf it (by simp)
    have W := Walks.longrange (prog := X.prog) (w := X.w) (I.ok.hd hc) it lo 1 n
    refine W.item i s _ _ hg st fun v h' tk hv st' kk => ?_
    obtain ⟨t, rfl⟩ := hv
    have I1 : Inv X pins σ H { s with heap := h', toks := tk } := I.turned (fun b o hb e => kk b o (by simpa using hb) e) f0 f1 f3 f4 f5
    refine ⟨_, rfl, go_of (s := { s with heap := h', toks := tk }) (n := "longrange_iterator") st' rfl rfl (by decide) ⟨.int (lo + i), H, I1, ⟨t, ?_⟩, ⟨rfl, rfl⟩, st', fun b hb => (hf b hb).1⟩⟩
    rw [Int.mul_one]
  done := by
    intro X hP hw hK hc i pins s σ H E I hf st hg
    subst hP hw hK
    obtain ⟨f0, f1, f2, f3, f4, f5⟩ := hf it (by simp)
    exact wpAny_pyNext_long_end (I.ok.hd hc) st (by have : n ≤ i := hg; omega) fun h' eb => ⟨rfl, I.turned (t' := s.toks) (fun b o hb e => eb b o hb e) f0 f1 f3 f4 f5⟩
  self := fun _ _ _ _ _ st h => wpAny_pyIter_longiter st h
section
variable {X : Cx} {tg : Expr}
theorem range_any {pins : List (Addr × Obj)} {σ : L2.St} {H : Hp} {s : Shared} {R : It → Hp → Prop} {E : Value → Shared → Prop} {lo hi : Int} {t u v : Tok} {tk : Nat} (I : Inv X pins σ H s)
    (q : R (Itr lo (hi - lo).toNat) H) : wpAny (model X.prog X.w) X.A (pyIter (.ref s.heap.objs.size)) (PIE X pins σ tg R) E { s with heap := s.heap.push { cls := .type "range", data := .fields #[.int lo t, .int hi u, .int 1 v] }, toks := tk } := by
  have I1 : Inv X pins σ H { s with heap := s.heap.push { cls := .type "range", data := .fields #[.int lo t, .int hi u, .int 1 v] }, toks := tk } := I.kept fun b o e => Heap.get?_push_of_some _ e
  have e1 : lo + ((0 : Nat) : Int) * 1 = lo := by simp
  have e2 : (((hi - lo).toNat : Nat) : Int) - ((0 : Nat) : Int) = Builtin.Range.rangeSize lo hi 1 := by rw [rangeSize_one]; split <;> omega
  by_cases hsm : Builtin.Range.small lo hi 1 = true
  · refine wpAny_pyIter_range (IsRange.new ..) hsm ?_
    refine ⟨(s.heap.push { cls := .type "range", data := .fields #[.int lo t, .int hi u, .int 1 v] }).objs.size, [(s.heap.push { cls := .type "range", data := .fields #[.int lo t, .int hi u, .int 1 v] }).objs.size], _, _, H, rfl,
      I1.kept (t' := tk) fun b o e => Heap.get?_push_of_some _ e, turn_range _ lo (hi - lo).toNat, ?_, fun b hb => ?_, q⟩
    · show IsRangeIter _ _ (lo + ((0 : Nat) : Int) * 1) ((((hi - lo).toNat : Nat) : Int) - ((0 : Nat) : Int)) 1
      rw [e1, e2]
      exact Heap.get?_push_size _ rfl
    · have e : b = (s.heap.push { cls := .type "range", data := .fields #[.int lo t, .int hi u, .int 1 v] }).objs.size := by simpa using hb
      subst e
      exact I1.fpOk (Nat.le_refl _) (I1.hok.fresh (Nat.le_refl _))
  · refine wpAny_pyIter_longrange (IsRange.new ..) (by simpa using hsm) ?_
    refine ⟨(s.heap.push { cls := .type "range", data := .fields #[.int lo t, .int hi u, .int 1 v] }).objs.size, [(s.heap.push { cls := .type "range", data := .fields #[.int lo t, .int hi u, .int 1 v] }).objs.size], _, _, H, rfl,
      I1.kept (t' := tk) fun b o e => Heap.get?_push_of_some _ e, turn_long _ lo (hi - lo).toNat, ?_, fun b hb => ?_, q⟩
    · show IsLongIter _ _ (lo + ((0 : Nat) : Int) * 1) ((((hi - lo).toNat : Nat) : Int) - ((0 : Nat) : Int)) 1
      rw [e1, e2]
      exact Heap.get?_push_size _ rfl
    · have e : b = (s.heap.push { cls := .type "range", data := .fields #[.int lo t, .int hi u, .int 1 v] }).objs.size := by simpa using hb
      subst e
      exact I1.fpOk (Nat.le_refl _) (I1.hok.fresh (Nat.le_refl _))
def iRg1 (ta : TA) : TI := fun σ H R => ta σ H fun vs H1 => ∃ j : Int, vs = [.int j] ∧ R (Itr 0 j.toNat) H1
def iRg2 (ta : TA) : TI := fun σ H R => ta σ H fun vs H1 => ∃ i j : Int, vs = [.int i, .int j] ∧ R (Itr i (j - i).toNat) H1
theorem pi_rg1 {a : Expr} {ta : TA} {p pos : Pos} (hg : Gl X "range") (hm : X.mg "range" = none) (ha : PA X [a] ta) (hs : starEach [a] X.env = [(false, eval a X.env)] := by rfl) : PI X tg (.Call (.Name "range" p) [a] [] pos) (iRg1 ta) := by
  refine ⟨fun pins s σ H R I h => ?_⟩
  refine Call_ (ld_blt I hg hm boot_range (PyProof.Rows.callWith_type1 (thn (ha.run pos pins s σ H _ I h) fun us s1 ⟨vs, H1, I1, r1, q1⟩ => ?_) hs rfl))
  obtain ⟨j, e, q⟩ := q1
  subst e
  cases r1 with
  | cons r rr =>
    cases rr
    obtain ⟨t, rfl⟩ := r
    exact call_range_1 (range_any I1 (by simpa using q))
theorem pi_rg2 {a b : Expr} {ta : TA} {p pos : Pos} (hg : Gl X "range") (hm : X.mg "range" = none) (ha : PA X [a, b] ta) (hs : starEach [a, b] X.env = [(false, eval a X.env), (false, eval b X.env)] := by rfl) (hs2 : starEach [b] X.env = [(false, eval b X.env)] := by rfl) :
    PI X tg (.Call (.Name "range" p) [a, b] [] pos) (iRg2 ta) := by
  refine ⟨fun pins s σ H R I h => ?_⟩
  refine Call_ (ld_blt I hg hm boot_range (PyProof.Rows.callWith_type1 (thn (ha.run pos pins s σ H _ I h) fun us s1 ⟨vs, H1, I1, r1, q1⟩ => ?_) (by rw [hs, hs2]) (by rw [hs2]; rfl)))
  obtain ⟨i, j, e, q⟩ := q1
  subst e
  cases r1 with
  | cons r rr =>
    cases rr with
    | cons r' rr =>
      cases rr
      obtain ⟨t, rfl⟩ := r
      obtain ⟨t', rfl⟩ := r'
      exact call_range_2 (range_any I1 q)
end

/-! ### enumerate(tuple) -/
def IteT (K : PySem.W.Frag) (a : Addr) : It :=
  ⟨fun i H => ∃ (xs : List V) (x : V), SqT K H a xs ∧ xs[i]? = some x, fun i H v H' => ∃ T x, v = .ref T ∧ H T = none ∧ H' = upd H T (.tup [.int (i : Nat), x]) ∧ ∀ xs, SqT K H a xs → xs[i]? = some x, fun i H => ∃ xs : List V, SqT K H a xs ∧ xs.length = i⟩
theorem turn_enumT {P : Program} {w : World} {K : PySem.W.Frag} {elts : List Expr} {kk : Nat} {tpos : Pos} (a e it : Addr) :
    Turn P w K (.Tuple elts kk tpos) (IteT K a) [e, it] e (fun i h => (∃ old, IsEnum h e it ((i : Nat) : Int) old) ∧ h.IsTupleIter it a i ∧ e ≠ it) where
  mem := by simp
  obj := fun i h st b hb => by
    obtain ⟨⟨old, he⟩, ⟨o, ho, hc, hd⟩, _⟩ := st
    have e' : b = e ∨ b = it := by simpa using hb
    rcases e' with z | z
    · rw [z]; exact ⟨_, he, fun v q => nomatch q⟩
    · rw [z]; exact ⟨o, ho, fun v q => by rw [hd] at q; cases q⟩
  keep := fun i h h' st k => let ⟨⟨old, he⟩, hi, hne⟩ := st; ⟨⟨old, k e (by simp) _ he⟩, hi.at fun o q => k it (by simp) o q, hne⟩
  item := by
    intro X hP hw hK hc i pins s σ H E I hf st hg
    subst hP hw hK
    obtain ⟨⟨old, he⟩, hit, hne⟩ := st
    obtain ⟨xs, x, hq, hx⟩ := hg
    obtain ⟨its, rv, p, hz⟩ := I.tuple hq
    obtain ⟨u, hu, ru⟩ := rv.get hx
    have hel : e < s.heap.objs.size := Heap.lt_size he
    have hil : it < s.heap.objs.size := by obtain ⟨_, q, _⟩ := hit; exact Heap.lt_size q
    have hai : a ≠ it := by
      rintro rfl
      obtain ⟨o1, q1, c1, _⟩ := hit
      obtain ⟨o2, q2, c2, _⟩ := p
      rw [q1] at q2
      cases q2
      rw [c1] at c2
      exact absurd c2 (by decide +kernel)
    have hae : e ≠ a := by
      rintro rfl
      obtain ⟨o2, q2, c2, _⟩ := p
      have h3 : some (o2 : Obj) = some _ := q2.symm.trans he
      have h4 := Option.some.inj h3
      subst h4
      have c3 : Value.type "enumerate" = Value.type "tuple" := c2
      exact absurd c3 (by decide +kernel)
    have D := Draws.tuple (prog := X.prog) (w := X.w) (A := X.A.in1) (I.ok.hd hc) it a hai its.toArray
    have hlt : i < its.toArray.size := by
      have h1 := (List.getElem?_eq_some_iff.mp hu).1
      simpa using h1
    refine wpAny_pyNext_enum_itemD D he ⟨hit, p⟩ hlt hne (by simp only [List.mem_cons, List.not_mem_nil, or_false, not_or]; exact ⟨hne, hae⟩) fun x' h' tk hP ho hst' hT hsz hk => ?_
    have ex : x' = u := by
      have h1 : its.toArray[i]? = some x' := hP
      have h2 : its[i]? = some x' := by simpa using h1
      rw [hu] at h2
      exact (Option.some.inj h2).symm
    subst ex
    refine ⟨_, rfl, wpAny_letOwnedTupleGo_enum (s := { s with heap := h', toks := tk + 1 }) ho fun h'' he' sb => ?_⟩
    have hT2 : h''.get? s.heap.objs.size = some { cls := .type "tuple", data := .seq #[.int i tk, x'] } := (sb.2 _ (Nat.ne_of_gt hel)).trans hT
    have new : ObjOk X.prog X.w (upd H s.heap.objs.size (.tup [.int (i : Nat), x])) h'' s.heap.objs.size (.tup [.int (i : Nat), x]) :=
      ⟨by show 2 ≤ sizeLine; decide, [.int i tk, x'], .cons ⟨_, rfl⟩ (.cons ru .nil), ⟨_, hT2, rfl, _, rfl⟩⟩
    have I1 : Inv X pins σ (upd H s.heap.objs.size (.tup [.int (i : Nat), x])) { s with heap := h'', toks := tk + 1 } :=
      I.turnedNew (ch := [e, it]) (fun b ob hb q => (sb.2 b (fun z => hb (by simp [z]))).trans (hk b ob (fun z => hb (by simp [z])) (fun z => hb (by simp [z])) q)) hf (Nat.le_refl _) new
    refine ⟨.ref s.heap.objs.size, _, I1, rfl, ⟨_, x, rfl, I.hok.fresh (Nat.le_refl _), rfl, fun ys hy => by rw [I.tuple_inj hy hq]; exact hx⟩, ⟨⟨x', ?_⟩, hst'.1.at fun o q => (sb.2 it (Ne.symm hne)).trans q, hne⟩, fun b hb => ?_⟩
    · have e1 : ((i + 1 : Nat) : Int) = (i : Int) + 1 := by omega
      rw [e1]; exact he'
    · have hb' : b < s.heap.objs.size := by
        have e' : b = e ∨ b = it := by simpa using hb
        rcases e' with z | z
        · rw [z]; exact hel
        · rw [z]; exact hil
      rw [upd_ne (Nat.ne_of_lt hb')]
      exact (hf b hb).1
  done := by
    intro X hP hw hK hc i pins s σ H E I hf st hg
    subst hP hw hK
    obtain ⟨⟨old, he⟩, hit, hne⟩ := st
    obtain ⟨xs, hq, hx⟩ := hg
    obtain ⟨its, rv, p, hz⟩ := I.tuple hq
    obtain ⟨f0, f1, f2, f3, f4, f5⟩ := hf it (by simp)
    have hl := rv.length
    have hai : a ≠ it := by
      rintro rfl
      obtain ⟨o1, q1, c1, _⟩ := hit
      obtain ⟨o2, q2, c2, _⟩ := p
      rw [q1] at q2
      cases q2
      rw [c1] at c2
      exact absurd c2 (by decide +kernel)
    have D := Draws.tuple (prog := X.prog) (w := X.w) (A := X.A.in1) (I.ok.hd hc) it a hai its.toArray
    have hi : i = its.toArray.size := by simp; omega
    subst hi
    exact wpAny_pyNext_enum_endD D he ⟨hit, p⟩ fun h' eb => ⟨rfl, I.turned (t' := s.toks) (fun b o hb q => eb b o hb q) (hf it (by simp)).1 (hf it (by simp)).2.1 (hf it (by simp)).2.2.2.1 (hf it (by simp)).2.2.2.2.1 (hf it (by simp)).2.2.2.2.2⟩
  self := fun A i s Q E st h => let ⟨⟨_, he⟩, _⟩ := st; wpAny_pyIter_enum he h

section
variable {prog : Program} {w : World} {A : Around} {E : Value → Shared → Prop} {s : Shared}
theorem meets_enum_tup (l : Addr) (items : Array Value) (n : Nat) (dct : Option Addr) (sl : Array (Option Value)) :
    Meets (Builtin.«enumerate.__new__» ⟨[.type "enumerate", .ref l], []⟩) (fun _ R s => s.heap.get? l = some { cls := .type "tuple", dict := dct, data := .seq items n, slots := sl } ∧
      R (.ok (.ret (.ref (s.heap.push { cls := .type "tuple_iterator", data := .fields #[.ref l, .int 0 0] }).objs.size)))
        { s with heap := (s.heap.push { cls := .type "tuple_iterator", data := .fields #[.ref l, .int 0 0] }).push { cls := .type "enumerate", data := .fields #[.none, .bool false, .ref s.heap.objs.size, rawInt 0, .none, .none] } }) :=
  .of_wp fun prog w A R s h => by
    obtain ⟨hp, g, d, tk, os⟩ := s; obtain ⟨hl, h⟩ := h
    have hsub := sub_enumerate
    have hL : Heap.IsTuple (Shared.heap ⟨hp, g, d, tk, os⟩) l items := ⟨_, hl, rfl, n, rfl⟩
    wp_walk using wpAny_pyIter_tuple hL
    refine wpAny_stack_any fun st => wpAny_pure ?_
    split
    · rename_i c _ _ _ _ _
      cases (c == Value.type "enumerate")
      · wp_walk using wpAny_pyIter_tuple hL
        exact ⟨_, rfl, h⟩
      · wp_walk using wpAny_pyIter_tuple hL
        exact ⟨_, rfl, h⟩
    · wp_walk using wpAny_pyIter_tuple hL
      exact ⟨_, rfl, h⟩
theorem call_enum_tup {l : Addr} {items : Array Value} {Q : Value → Shared → Prop} (hL : s.heap.IsTuple l items)
    (h : ∀ h', IsEnum h' (s.heap.objs.size + 1) s.heap.objs.size 0 .none → h'.IsTupleIter s.heap.objs.size l 0 → h'.objs.size = s.heap.objs.size + 2 →
      (∀ b o, s.heap.get? b = some o → h'.get? b = some o) → Q (.ref (s.heap.objs.size + 1)) { s with heap := h' }) :
    wpAny (model prog w) A (call (.type "enumerate") [.ref l]) Q E s := by
  obtain ⟨⟨c, dct, dt, sl⟩, hl, hc, n, hd⟩ := hL
  replace hc : c = .type "tuple" := hc
  replace hd : dt = .seq items n := hd
  subst hc hd
  refine callType_new F.called_enumerate (by decide) (F.typeCall_enumerate_1 _) (F.newCall_enumerate_1 _) (fun obj => F.args_object_init_2 obj _) F.entry_enumerate_new
    (meets_enum_tup l items n dct sl) ⟨hl, ?_⟩
  have hz : (s.heap.push { cls := .type "tuple_iterator", data := .fields #[.ref l, .int 0 0] }).objs.size = s.heap.objs.size + 1 := Heap.size_push ..
  show _ ∧ _
  rw [hz]
  have he : IsEnum ((s.heap.push { cls := .type "tuple_iterator", data := .fields #[.ref l, .int 0 0] }).push
      { cls := .type "enumerate", data := .fields #[.none, .bool false, .ref s.heap.objs.size, rawInt 0, .none, .none] }) (s.heap.objs.size + 1) s.heap.objs.size 0 .none := by
    have := Heap.get?_push_size (s.heap.push { cls := .type "tuple_iterator", data := .fields #[.ref l, .int 0 0] })
      (o := { cls := .type "enumerate", data := .fields #[.none, .bool false, .ref s.heap.objs.size, rawInt 0, .none, .none] }) rfl
    rw [hz] at this; exact this
  refine ⟨⟨_, he, rfl⟩, h _ he ⟨_, Heap.get?_push_of_some _ (Heap.get?_push_size _ rfl), rfl, rfl⟩ (by rw [Heap.size_push, hz]) fun b o x => Heap.get?_push_of_some _ (Heap.get?_push_of_some _ x)⟩
end

theorem pi_enumT {X : Cx} {e : Expr} {ta : TA} {p pos tpos : Pos} {elts : List Expr} {kk : Nat} (hg : Gl X "enumerate") (hm : X.mg "enumerate" = none) (ha : PA X [e] ta) (hs : starEach [e] X.env = [(false, eval e X.env)] := by rfl) :
    PI X (.Tuple elts kk tpos) (.Call (.Name "enumerate" p) [e] [] pos) (fun σ H R => ta σ H fun vs H1 => ∃ a xs, vs = [.ref a] ∧ SqT X.K H1 a xs ∧ R (IteT X.K a) H1) := by
  refine ⟨fun pins s σ H R I h => ?_⟩
  refine Call_ (ld_blt I hg hm boot_enumerate (PyProof.Rows.callWith_type1 (thn (ha.run pos pins s σ H _ I h) fun us s1 ⟨vs, H1, I1, r1, q1⟩ => ?_) hs rfl))
  obtain ⟨a, xs, ex, hq, q⟩ := q1
  subst ex
  cases r1 with
  | cons r rr =>
    cases rr
    cases r
    obtain ⟨its, rv, p', hz⟩ := I1.tuple hq
    refine call_enum_tup p' fun h' he hit hsz hk => wpAny_pyIter_enum he ?_
    have I2 : Inv X pins σ H1 { s1 with heap := h' } := I1.kept (t' := s1.toks) hk
    refine ⟨s1.heap.objs.size + 1, [s1.heap.objs.size + 1, s1.heap.objs.size], _, _, H1, rfl, I2, turn_enumT a (s1.heap.objs.size + 1) s1.heap.objs.size, ⟨⟨.none, he⟩, hit, Nat.succ_ne_self _⟩, fun b hb => ?_, q⟩
    have e' : b = s1.heap.objs.size + 1 ∨ b = s1.heap.objs.size := by simpa using hb
    have hle : s1.heap.objs.size ≤ b := by
      rcases e' with z | z
      · rw [z]; exact Nat.le_add_right _ _
      · rw [z]; exact Nat.le_refl _
    exact I1.fpOk hle (I1.hok.fresh hle)
/-! ### own operators -/
section
variable {X : Cx} {pins : List (Addr × Obj)} {σ : L2.St} {H : Hp} {s : Shared} {CX : CXT} {C f : Addr} {k : Nat} {fd : FuncData} {ps : List Str} {sp : Sp} {m : Str} {E : XK}
theorem inst_of {a dx : Addr} {fs : List (Str × V)} (I : Inv X pins σ H s) (h : H a = some (.ins C dx fs)) : ∃ od, PySem.W.InstAt s.heap a (PySem.W.instObj C dx) C (some od) := by
  obtain ⟨mA, O, _⟩ := ins_get I.hok h
  obtain ⟨od, J, _⟩ := O.look
  exact ⟨od, J⟩
/-- -x, ~x of an own instance -/
theorem un_own {op : UnaryOp} (hop : (op = .USub ∧ m = "__neg__") ∨ (op = .Invert ∧ m = "__invert__")) (hm : Meth X.K C m f) (F : FnOk X.prog X.w X.K X.mg X.base CX k f fd ps sp) (hr : Room k X.A) (hb : Binds X.K fd ps []) (hx : Passes CX X E) :
    UnR X (unaryOp op) (fun x H Q => ∃ a dx fs, x = .ref a ∧ H a = some (.ins C dx fs) ∧ sp [.ref a] H Q E) := by
  intro pins s σ H x v Q I rx h
  obtain ⟨a, dx, fs, rfl, ha, q⟩ := h
  cases rx
  obtain ⟨od, J⟩ := inst_of I ha
  obtain ⟨m', Fr⟩ := I.fr
  have go := run_fn (us := [.ref a]) (vs := [.ref a]) F hr hb .nil hx I (.cons rfl .nil) (by rw [List.append_nil]; exact q)
  rcases hop with ⟨rfl, rfl⟩ | ⟨rfl, rfl⟩
  · exact PySem.W.ksp_neg Fr I.ok.mod.kin J hm.at_ hm.fn go
  · exact PySem.W.ksp_inv Fr I.ok.mod.kin J hm.at_ hm.fn go
/-- x op y of two instances of one own class -/
theorem bin_own {op : Operator} (hop : PySem.dunder op.info.2 = m) (hc : PySem.W.selfFirst X.K C = true) (hm : Meth X.K C m f) (F : FnOk X.prog X.w X.K X.mg X.base CX k f fd ps sp) (hr : Room k X.A) (hb : Binds X.K fd ps []) (hx : Passes CX X E) :
    OpR X (binaryOp op) (fun x y H Q => ∃ a b dx fs dy gs, x = .ref a ∧ y = .ref b ∧ H a = some (.ins C dx fs) ∧ H b = some (.ins C dy gs) ∧ sp [.ref a, .ref b] H (fun v H' => (∃ p, v = .ref p) ∧ Q v H') E) := by
  intro pins s σ H x y v u Q I rx ry h
  obtain ⟨a, b, dx, fs, dy, gs, rfl, rfl, ha, hb', q⟩ := h
  cases rx
  cases ry
  obtain ⟨od, J⟩ := inst_of I ha
  obtain ⟨od', J'⟩ := inst_of I hb'
  obtain ⟨m', Fr⟩ := I.fr
  subst hop
  refine PySem.W.binop_K Fr I.ok.mod.kin J J'.type hc hm.at_ hm.fn ?_
  refine thn (run_fn (us := [.ref a, .ref b]) (vs := [.ref a, .ref b]) F hr hb .nil hx I (.cons rfl (.cons rfl .nil)) (by rw [List.append_nil]; exact q)) fun r s' z => ?_
  obtain ⟨w', H', I', rw', ⟨p, hp⟩, q'⟩ := z
  subst hp
  obtain rfl : r = Value.ref p := rw'
  exact ⟨.ref p, H', I', rfl, q'⟩
/-- x in y, y an own instance with __contains__ that gives a bool -/
theorem in_own (hm : Meth X.K C "__contains__" f) (F : FnOk X.prog X.w X.K X.mg X.base CX k f fd ps sp) (hr : Room k X.A) (hb : Binds X.K fd ps []) (hx : Passes CX X E) :
    OpR X (compareOp .In) (fun x y H Q => ∃ b dy gs, y = .ref b ∧ H b = some (.ins C dy gs) ∧ sp [.ref b, x] H (fun v H' => ∃ c, v = .bl c ∧ Q (.bl c) H') E) := by
  intro pins s σ H x y v u Q I rx ry h
  obtain ⟨b, dy, gs, rfl, hb', q⟩ := h
  cases ry
  obtain ⟨od, J⟩ := inst_of I hb'
  obtain ⟨m', Fr⟩ := I.fr
  refine PySem.W.in_K Fr I.ok.mod.kin J hm.at_ hm.fn ?_
  refine thn (run_fn (us := [.ref b, v]) (vs := [.ref b, x]) F hr hb .nil hx I (.cons rfl (.cons rx .nil)) (by rw [List.append_nil]; exact q)) fun r s' z => ?_
  obtain ⟨w', H', I', rw', c, hc, q'⟩ := z
  subst hc
  obtain rfl : r = Value.bool c := rw'
  exact wpAny_truthy_bool ⟨.bl c, H', I', rfl, q'⟩
/-- an own instance's truth by its __bool__ -/
theorem tru_own (hm : Meth X.K C "__bool__" f) (F : FnOk X.prog X.w X.K X.mg X.base CX k f fd ps sp) (hr : Room k X.A) (hb : Binds X.K fd ps []) (hx : Passes CX X E) :
    TruR X (fun x H Q => ∃ a dx fs, x = .ref a ∧ H a = some (.ins C dx fs) ∧ sp [.ref a] H (fun v H' => ∃ c, v = .bl c ∧ Q c H') E) := by
  intro pins s σ H x v Q I rx h
  obtain ⟨a, dx, fs, rfl, ha, q⟩ := h
  cases rx
  obtain ⟨od, J⟩ := inst_of I ha
  obtain ⟨m', Fr⟩ := I.fr
  refine PySem.W.truthy_K Fr I.ok.mod.kin J hm.at_ hm.fn ?_
  refine thn (run_fn (us := [.ref a]) (vs := [.ref a]) F hr hb .nil hx I (.cons rfl .nil) (by rw [List.append_nil]; exact q)) fun r s' z => ?_
  obtain ⟨w', H', I', rw', c, hc, q'⟩ := z
  subst hc
  obtain rfl : r = Value.bool c := rw'
  exact ⟨H', I', q'⟩
/-- not e, by a rule of truth -/
theorem pe_notR {r : V → Hp → (Bool → Hp → Prop) → Prop} {e : Expr} {te : TE} {pos : Pos} (ht : TruR X r) (he : PE X e te) : PE X (.UnaryOp .Not e pos) (fun σ H Q => te σ H fun x H1 => r x H1 fun c H2 => Q (.bl (!c)) H2) := by
  refine ⟨fun pins s σ H Q I h => ?_⟩
  refine UnaryOp_ (thn (he.run pins s σ H _ I h) fun v s1 ⟨x, H1, I1, r1, q1⟩ => ?_)
  exact not_of (thn (ht pins s1 σ H1 x v _ I1 r1 q1) fun c s2 ⟨H2, I2, q2⟩ => ⟨.bl (!c), H2, I2, rfl, q2⟩)
end

/-! ### o.f as a target -/
def gFld (K : PySem.W.Frag) (to : TE) (f : Str) : TG := fun y σ H Q => to σ H fun x H1 => ∃ a C dx fs, x = .ref a ∧ H1 a = some (.ins C dx fs) ∧ Cls K C ∧ NoAttr K C f ∧ fs.length < 1000 ∧ Q σ (upd H1 a (.ins C dx (putF f y fs)))
theorem pg_fld {X : Cx} {o : Expr} {f : Str} {pos : Pos} {to : TE} (ho : PE X o to)
    (ha : ∀ v, assign (.Attribute o f pos) X.env v = (do
      let ov ← holding [v] (eval o X.env)
      standAt pos.atName
      holding [v, ov] (setAttr ov f v)
      release [v, ov] []) := by intro _; rfl) : PG X (.Attribute o f pos) (gFld X.K to f) := by
  refine ⟨fun pins s σ H v u Q I r h => ?_⟩
  rw [ha]
  refine wpAny_bind (wpAny_holding (thn (ho.run pins s σ H _ I h) fun ov s1 ⟨x, H1, I1, r1, a, C, dx, fs, ex, ea, c, n, l, q⟩ => ?_))
  subst ex
  obtain rfl : ov = Value.ref a := r1
  exact wpAny_bind (wpAny_standAt (wpAny_bind (wpAny_holding (setattr_ok I1 ea c n l r fun s3 I3 => wpAny_release ⟨σ, _, I3, q⟩))))
end Rk
set_option maxHeartbeats 4000000
/-! Rules of our own, second part: tuples, least and greatest, repr. -/
namespace Rk
open PySem PySem.Spec PyProof.Rows L2

/-! ### t * k -/
theorem tup_mul1 (l : Addr) (items : Array Value) (n : Nat) (dd : Option Addr) (sl : Array (Option Value)) (u : Tok) :
    Meets (Builtin.«tuple.__mul__» ⟨[.ref l, .int 1 u], []⟩) (fun _ R s => s.heap.get? l = some { cls := .type "tuple", dict := dd, data := .seq items n, slots := sl } ∧ R (.ok (.ret (Value.ref l))) s) :=
  .of_wp fun prog w A R s h => by
    obtain ⟨hp, g, d, tk, os⟩ := s
    obtain ⟨hl, h⟩ := h
    have f1 := AutoSeq1.idx_int
    have c1 : (items.isEmpty || (1 : Int) == 1) = true := by simp
    wp_walk using wpAny_loadPart' hl
    repeat (first
      | (refine wpAny_ite_true (decide_eq_true (by rw [c1])) ?_; wp_walk using wpAny_loadPart' hl)
      | (refine wpAny_ite_true (by rw [c1]; rfl) ?_; wp_walk using wpAny_loadPart' hl))
    exact ⟨_, rfl, h⟩
theorem tup_mul0 (l : Addr) (items : Array Value) (n : Nat) (dd : Option Addr) (sl : Array (Option Value)) (x : Int) (u : Tok) (c0 : (decide (x < -(2 ^ 63)) || decide (x ≥ 2 ^ 63)) = false) (c1 : (items.isEmpty || x == 1) = false) (c2 : (decide (x ≤ 0) || items.isEmpty) = true) :
    Meets (Builtin.«tuple.__mul__» ⟨[.ref l, .int x u], []⟩) (fun _ R s => s.heap.get? l = some { cls := .type "tuple", dict := dd, data := .seq items n, slots := sl } ∧
      R (.ok (.ret (Value.ref s.heap.objs.size))) { s with heap := s.heap.push { cls := Value.type "tuple", data := Data.seq #[] }, toks := s.toks }) :=
  .of_wp fun prog w A R s h => by
    obtain ⟨hp, g, d, tk, os⟩ := s
    obtain ⟨hl, h⟩ := h
    have f1 := AutoSeq1.idx_int
    wp_walk using wpAny_loadPart' hl
    repeat (first
      | (refine wpAny_ite_false (decide_eq_false (by rw [c0]; exact Bool.false_ne_true)) ?_; wp_walk using wpAny_loadPart' hl)
      | (refine wpAny_ite_false (decide_eq_false (by rw [c1]; exact Bool.false_ne_true)) ?_; wp_walk using wpAny_loadPart' hl)
      | (refine wpAny_ite_true (decide_eq_true (by rw [c2])) ?_; wp_walk using wpAny_loadPart' hl))
    exact ⟨_, rfl, h⟩
def rMulT (K : PySem.W.Frag) : R2 := fun x y H Q => ∃ l k xs, x = .ref l ∧ y = .int k ∧ SqT K H l xs ∧ xs ≠ [] ∧ xs.length ≤ 1000 ∧ -(2 ^ 40) < k ∧ (xs.length : Int) * k ≤ 16777216 ∧ k ≤ 16777216 ∧
  (k = 1 → Q (.ref l) H) ∧ (k ≠ 1 → ∀ p, H p = none → Q (.ref p) (upd H p (.tup (List.replicate k.toNat xs).flatten)))
section
variable {X : Cx}
theorem op_mulT : OpR X (binaryOp .Mult) (rMulT X.K) := by
  intro pins s σ H x y v u Q I rx ry h
  obtain ⟨l, k, xs, rfl, rfl, hT, hne, hz, h1, h2, h3, q1, q⟩ := h
  cases rx
  obtain ⟨t, rfl⟩ := ry
  obtain ⟨its, r, ⟨⟨cls, dd, data, sl⟩, ho, hc, n, hd⟩, hs⟩ := I.tuple hT
  simp only at hc hd
  subst hc hd
  have hle : its.length = xs.length := r.length.symm
  have hn : its ≠ [] := fun e => hne (by
    rw [e] at hle
    exact List.eq_nil_of_length_eq_zero hle.symm)
  have hi : its.toArray.isEmpty = false := by
    cases its with
    | nil => exact absurd rfl hn
    | cons a b => rfl
  have hsz0 : its.toArray.size = xs.length := by rw [List.size_toArray, hle]
  have c0 : (decide (k < -(2 ^ 63)) || decide (k ≥ 2 ^ 63)) = false := by
    rw [decide_eq_false (by omega), decide_eq_false (by omega)] <;> rfl
  have road : ∀ {Q' : Value → Shared → Prop}, wpAny (model X.prog X.w) X.A (call (.builtin "tuple.__mul__") [.ref l, .int k t]) Q' X.xe s → wpAny (model X.prog X.w) X.A (binaryOp .Mult (.ref l) (.int k t)) Q' X.xe s := fun hq =>
    wpAny_binaryOp_repeat_ref (T := "tuple") (U := "int") (by decide) ⟨_, ho, rfl⟩ (fun s' => typeIs_int s' k t) noFill_tuple_mul F.fills_int_mul F.slot_int_rmul repeat_tuple F.slot_int_index.lookup
      (call_meets F.slot_int_rmul (typeIs_int s k t) F.entry_int_rmul (F.args_int_rmul_2 _ _) (int_rmul_tuple k t l its.toArray n dd sl) ⟨ho, rfl, ⟨_, ho, rfl⟩, hq⟩)
  refine road ?_
  by_cases hk1 : k = 1
  · subst hk1
    exact call_meets F.slot_tuple_mul ⟨_, ho, rfl⟩ F.entry_tuple_mul (F.args_tuple_mul_2 _ _) (tup_mul1 l its.toArray n dd sl t) ⟨ho, .ref l, H, I, rfl, q1 rfl⟩
  · have c1 : (its.toArray.isEmpty || k == 1) = false := by
      rw [hi, Bool.false_or]
      exact beq_eq_false_iff_ne.mpr hk1
    by_cases hk0 : k ≤ 0
    · have c2 : (decide (k ≤ 0) || its.toArray.isEmpty) = true := by rw [decide_eq_true hk0, Bool.true_or]
      refine call_meets F.slot_tuple_mul ⟨_, ho, rfl⟩ F.entry_tuple_mul (F.args_tuple_mul_2 _ _) (tup_mul0 l its.toArray n dd sl k t c0 c1 c2) ⟨ho, ?_⟩
      have e0 : k.toNat = 0 := by omega
      have e1 : (List.replicate k.toNat xs).flatten = [] := by rw [e0]; rfl
      have q2 := q hk1
      rw [e1] at q2
      refine ⟨.ref s.heap.objs.size, _, I.laid (t' := s.toks) (o := .tup []) (fun b ob q => Heap.get?_push_of_some _ q) (Nat.le_refl _) ?_, rfl, q2 _ (I.hok.fresh (Nat.le_refl _))⟩
      exact ⟨Nat.zero_le _, [], .nil, IsTup.new _ _⟩
    · have hm : ((its.toArray.size : Nat) : Int) * k ≤ 16777216 := by rw [hsz0]; exact h2
      have flen : (List.replicate k.toNat its).flatten.length ≤ sizeLine := by
        rw [PyProof.Rows.lm_len_rep_flat, hle, sizeLine_eq]
        have a1 : ((k.toNat * xs.length : Nat) : Int) ≤ 16777216 := by
          rw [Int.natCast_mul, Int.toNat_of_nonneg (by omega), Int.mul_comm]; exact h2
        omega
      have c2 : (decide (k ≤ 0) || its.toArray.isEmpty) = false := by
        rw [hi, Bool.or_false]
        exact decide_eq_false hk0
      have c4 : Builtin.Tuple.tupleTooMany (((its.toArray.size : Nat) : Int) * k) = false := by
        unfold Builtin.Tuple.tupleTooMany
        rw [sizeLine_eq]
        exact decide_eq_false (by omega)
      refine call_meets F.slot_tuple_mul ⟨_, ho, rfl⟩ F.entry_tuple_mul (F.args_tuple_mul_2 _ _) (tuple_mulW l its.toArray n dd sl k t c0 c1 c2 (by omega) c4 (by rw [size_rep, List.size_toArray]; exact flen)) ⟨ho, ?_⟩
      rw [size_rep]
      refine ⟨.ref s.heap.objs.size, _, I.laid (t' := s.toks) (o := .tup (List.replicate k.toNat xs).flatten) (fun b ob q => Heap.get?_push_of_some _ q) (Nat.le_refl _) ?_, rfl, q hk1 _ (I.hok.fresh (Nat.le_refl _))⟩
      have flen2 : (List.replicate k.toNat xs).flatten.length ≤ sizeLine := by
        rw [PyProof.Rows.lm_len_rep_flat]; rw [PyProof.Rows.lm_len_rep_flat, hle] at flen; exact flen
      exact ⟨flen2, _, r.rep k.toNat, IsTup.new _ _⟩
end

/-! ### t[::-1] -/
theorem fm_congr {α β : Type} {f g : α → Option β} : ∀ {l : List α}, (∀ a ∈ l, f a = g a) → l.filterMap f = l.filterMap g
  | [], _ => rfl
  | a :: l, h => by
    rw [List.filterMap_cons, List.filterMap_cons, h a List.mem_cons_self, fm_congr fun b hb => h b (List.mem_cons_of_mem _ hb)]
theorem rev_pick (xs : Array Value) : ((List.range xs.size).filterMap fun (m : Nat) => xs[(((xs.size : Int) - 1) + (m : Int) * (-1)).toNat]?).toArray = xs.toList.reverse.toArray := by
  congr 1
  refine List.ext_getElem? fun i => ?_
  have e : ((List.range xs.size).filterMap fun (m : Nat) => xs[(((xs.size : Int) - 1) + (m : Int) * (-1)).toNat]?) = (List.range xs.size).map fun m => xs.toList.getD (xs.size - 1 - m) .none := by
    rw [← List.filterMap_eq_map]
    refine fm_congr fun m hm => ?_
    have hlt : m < xs.size := List.mem_range.mp hm
    have e2 : (((xs.size : Int) - 1) + (m : Int) * (-1)).toNat = xs.size - 1 - m := by omega
    rw [e2]
    have h3 : xs.size - 1 - m < xs.size := by omega
    simp [List.getD, h3]
  rw [e, List.getElem?_map]
  by_cases hi : i < xs.size
  · have h3 : xs.size - 1 - i < xs.size := by omega
    rw [List.getElem?_range hi, List.getElem?_reverse (by simpa using hi)]
    simp [List.getD, h3]
  · rw [List.getElem?_eq_none (by simpa using hi), List.getElem?_eq_none (by simp; omega)]
    rfl
theorem rev_adjust (n : Nat) : Builtin.Slice.sliceAdjust none none (-1) (n : Int) = ((n : Int) - 1, -1) := by
  unfold Builtin.Slice.sliceAdjust
  simp
theorem rev_places (n : Nat) : Builtin.Slice.slicePlaces ((n : Int) - 1) (-1) (-1) = n := by
  unfold Builtin.Slice.slicePlaces
  have h1 : ¬ ((-1 : Int) > 0) := by omega
  rw [if_neg h1]
  by_cases hn : (n : Int) - 1 > -1
  · rw [if_pos hn]
    simp
  · rw [if_neg hn]
    omega
section
variable {prog : Program} {w : World} {A : Around} {E : Value → Shared → Prop} {s : Shared}
theorem sliceApplied_rev {sl : Addr} {vl vu vs : Value} {n : Nat} {Q : Int × Int × Nat → Shared → Prop} (hs : s.heap.IsSliceOf sl vl vu vs) (pl : IsPart vl none) (pu : IsPart vu none) (ps : IsPart vs (some (-1)))
    (h : Q ((n : Int) - 1, -1, n) s) : wpAny (model prog w) A (Builtin.Slice.sliceApplied (.ref sl) (pure (n : Int))) Q E s := by
  obtain ⟨os, hos, hcs, hds⟩ := id hs
  unfold Builtin.Slice.sliceApplied Builtin.Slice.sliceFields
  refine wpAny_bind (wpAny_bind (wpAny_field hos hds (x := vl) rfl (wpAny_bind (wpAny_field hos hds (x := vu) rfl (wpAny_bind (wpAny_field hos hds (x := vs) rfl (wpAny_pure ?_)))))))
  refine wpAny_bind (HT.slicePart_ ps ?_)
  show wpAny _ _ (if ((-1 : Int) == 0) = true then _ else _) _ _ s
  rw [if_neg (by decide)]
  refine wpAny_bind (HT.slicePart_ pl (wpAny_bind (HT.slicePart_ pu (wpAny_bind (wpAny_pure ?_)))))
  show wpAny _ _ (match Builtin.Slice.sliceAdjust none none (-1) (n : Int) with | (lo, hi) => pure (lo, (-1 : Int), Builtin.Slice.slicePlaces lo hi (-1))) _ _ s
  rw [rev_adjust n]
  show wpAny _ _ (pure ((n : Int) - 1, (-1 : Int), Builtin.Slice.slicePlaces ((n : Int) - 1) (-1) (-1))) _ _ s
  rw [rev_places]
  exact wpAny_pure h
theorem getItem_tuple_rev {t sl : Addr} {items : Array Value} {vl vu vs : Value} {Q : Value → Shared → Prop} (ht : IsTup s.heap t items) (hs : s.heap.IsSliceOf sl vl vu vs) (pl : IsPart vl none) (pu : IsPart vu none) (ps : IsPart vs (some (-1)))
    (h : Q (.ref s.heap.objs.size) { s with heap := s.heap.push { cls := .type "tuple", data := .seq items.toList.reverse.toArray } })
    (hsz : items.size ≤ sizeLine) : wpAny (model prog w) A (getItem (.ref t) (.ref sl)) Q E s := by
  have hrev : sizeOk (.seq items.toList.reverse.toArray) := by
    show items.toList.reverse.toArray.size ≤ sizeLine
    simpa using hsz
  obtain ⟨os, hos, hcs, hds⟩ := id hs
  have hTs : s.TypeIs (.ref sl) "slice" := ⟨os, hos, hcs⟩
  unfold getItem
  try with_reducible refine wpAny_holding ?_
  first | refine wpAny_bind (wpAny_pure ?_) | skip
  refine wpAny_bind (wpAny_sequenceKey ht.typeIs (by decide) ?_)
  refine wpAny_bind (wpAny_callSpecial?_slot (name := Str.ofString "__getitem__") ht.typeIs PyProof.Rows.slot_tuple_getitem
    (wpAny_call_entry PyProof.Rows.slot_tuple_getitem ht.typeIs entry_tuple_getitem ?_ (args_tuple_getitem _ _)))
  show wpAny _ _ (Builtin.Tuple.tupleItemsOf (.ref t) >>= _) _ _ s
  refine wpAny_bind (tupleItemsOf_ ht ?_)
  refine wpAny_bind (wpAny_typeOf hTs ?_)
  rw [if_pos (by decide)]
  refine wpAny_bind (sliceApplied_rev hs pl pu ps ?_)
  have hno : ¬ ((((items.size : Int) - 1 == 0 && (-1 : Int) == 1) && items.size == items.size) = true) := by
    rw [show ((-1 : Int) == 1) = false from rfl, Bool.and_false, Bool.false_and]
    exact Bool.false_ne_true
  show wpAny _ _ (if ((((items.size : Int) - 1 == 0 && (-1 : Int) == 1) && items.size == items.size) = true) then _ else _) _ _ s
  rw [if_neg hno, rev_pick]
  first
    | exact wpAny_bind (m := Builtin.Tuple.tupleExact _) (wpAny_newObj_type (wpAny_pure ⟨_, rfl, wpAny_pure h⟩) hrev)
    | exact wpAny_bind (m := Builtin.Tuple.tupleExact _) (wpAny_newObj_type (wpAny_bind (wpAny_pure (wpAny_pure ⟨_, rfl, wpAny_pure h⟩))) hrev)
    | exact wpAny_bind (wpAny_bind (m := Builtin.Tuple.tupleExact _) (wpAny_newObj_type (wpAny_pure (wpAny_pure ⟨_, rfl, wpAny_pure h⟩)) hrev))
    | exact wpAny_bind (wpAny_bind (m := Builtin.Tuple.tupleExact _) (wpAny_newObj_type (wpAny_pure ⟨_, rfl, wpAny_pure h⟩) hrev))
end
section
variable {X : Cx}
def tRevT (K : PySem.W.Frag) (te : TE) : TE := fun σ H Q => te σ H fun x H1 => ∃ a xs, x = .ref a ∧ SqT K H1 a xs ∧ ∀ p, H1 p = none → Q (.ref p) (upd H1 p (.tup xs.reverse))
theorem pe_revT {e : Expr} {te : TE} {k : Nat} {p1 p2 p3 pos : Pos} (he : PE X e te) : PE X (.Subscript e (.Slice none none (some (.UnaryOp .USub (.Constant (.int 1) k p1) p2)) p3) pos) (tRevT X.K te) := by
  refine ⟨fun pins s σ H Q I h => ?_⟩
  refine Subscript_ (thn (he.run pins s σ H _ I h) fun v s1 ⟨x, H1, I1, r1, a, xs, ex, hx, q⟩ => ?_)
  subst ex
  cases r1
  have hst : PO X (some (.UnaryOp .USub (.Constant (.int 1) k p1) p2)) (tPart (tUn (rU fun i => .int (-i)) (tC (.int 1)))) := po_some (pe_un un_neg pe_int)
  refine wpAny_Slice (thn (po_none.run pins s1 σ H1 (fun o H2 => o = none ∧ H2 = H1) I1 ⟨rfl, rfl⟩) fun vl s2 ⟨l, H2, I2, pl, el, e2⟩ => ?_)
  subst el e2
  refine thn (po_none.run pins s2 σ H2 (fun o H3 => o = none ∧ H3 = H2) I2 ⟨rfl, rfl⟩) fun vu s3 ⟨u, H3, I3, pu, eu, e3⟩ => ?_
  subst eu e3
  refine thn (hst.run pins s3 σ H3 (fun o H4 => o = some (-1) ∧ H4 = H3) I3 ⟨1, rfl, -1, rfl, rfl, rfl⟩) fun vs s4 ⟨o, H4, I4, ps, eo, e4⟩ => ?_
  subst eo e4
  have I5 : Inv X pins σ H4 { s4 with heap := s4.heap.push { cls := .type "slice", data := .fields #[vl, vu, vs] } } := I4.kept (t' := s4.toks) fun b ob q => Heap.get?_push_of_some _ q
  obtain ⟨its, r, ht, hz⟩ := I5.tuple hx
  have hlen := r.length
  show wpAny (model X.prog X.w) X.A (subscriptTail e (.Slice none none (some (.UnaryOp .USub (.Constant (.int 1) k p1) p2)) p3) (.ref a) (.ref s4.heap.objs.size)) (EP X pins σ Q) X.xe { s4 with heap := s4.heap.push { cls := .type "slice", data := .fields #[vl, vu, vs] } }
  refine tail_any (ops := [.ref a, .ref s4.heap.objs.size]) ht.typeIs (PyProof.Rows.slot_tuple_getitem.lookup) ?_ (by with_unfolding_all rfl)
  refine getItem_tuple_rev ht (Heap.IsSliceOf.new _ vl vu vs) pl pu ps ?_ (by rw [List.size_toArray]; omega)
  refine ⟨.ref _, _, I5.laid (t' := s4.toks) (o := .tup xs.reverse) (fun b ob q => Heap.get?_push_of_some _ q) (Nat.le_refl _) ?_, rfl, q _ (I5.hok.fresh (Nat.le_refl _))⟩
  exact ⟨by rw [List.length_reverse]; exact hz, _, r.reverse, IsTup.new _ _⟩
end
end Rk
set_option maxHeartbeats 4000000
/-! Rules of our own, third part: min and max of a list or a tuple; repr of data; defs that know that no repr is under way. -/
namespace Rk
open PySem PySem.Spec PyProof.Rows L2

theorem min_facts (x : Int) : ∀ xs : List Int, PySem.W.minOf x xs ∈ x :: xs ∧ ∀ y ∈ x :: xs, PySem.W.minOf x xs ≤ y := by
  intro xs
  unfold PySem.W.minOf
  induction xs generalizing x with
  | nil => exact ⟨by simp, fun y hy => by simp at hy; subst hy; exact Int.le_refl _⟩
  | cons a xs ih =>
    rw [List.foldl_cons]
    have hlt : (PySem.W.DatumOrd.lt a x = true) = (a < x) := by
      show (decide (a < x) = true) = _
      simp
    by_cases h : a < x
    · rw [if_pos (by rw [hlt]; exact h)]
      obtain ⟨h1, h2⟩ := ih a
      refine ⟨List.mem_cons_of_mem _ h1, fun y hy => ?_⟩
      rcases List.mem_cons.mp hy with rfl | hy
      · have := h2 a List.mem_cons_self
        omega
      · exact h2 y hy
    · rw [if_neg (by rw [hlt]; exact h)]
      obtain ⟨h1, h2⟩ := ih x
      refine ⟨?_, fun y hy => ?_⟩
      · rcases List.mem_cons.mp h1 with e | e
        · rw [e]; exact List.mem_cons_self
        · exact List.mem_cons_of_mem _ (List.mem_cons_of_mem _ e)
      · rcases List.mem_cons.mp hy with rfl | hy
        · exact h2 _ List.mem_cons_self
        · rcases List.mem_cons.mp hy with rfl | hy
          · have := h2 x List.mem_cons_self
            omega
          · exact h2 y (List.mem_cons_of_mem _ hy)
theorem max_facts (x : Int) : ∀ xs : List Int, PySem.W.maxOf x xs ∈ x :: xs ∧ ∀ y ∈ x :: xs, y ≤ PySem.W.maxOf x xs := by
  intro xs
  unfold PySem.W.maxOf
  induction xs generalizing x with
  | nil => exact ⟨by simp, fun y hy => by simp at hy; subst hy; exact Int.le_refl _⟩
  | cons a xs ih =>
    rw [List.foldl_cons]
    have hlt : (PySem.W.DatumOrd.lt x a = true) = (x < a) := by
      show (decide (x < a) = true) = _
      simp
    by_cases h : x < a
    · rw [if_pos (by rw [hlt]; exact h)]
      obtain ⟨h1, h2⟩ := ih a
      refine ⟨List.mem_cons_of_mem _ h1, fun y hy => ?_⟩
      rcases List.mem_cons.mp hy with rfl | hy
      · have := h2 a List.mem_cons_self
        omega
      · exact h2 y hy
    · rw [if_neg (by rw [hlt]; exact h)]
      obtain ⟨h1, h2⟩ := ih x
      refine ⟨?_, fun y hy => ?_⟩
      · rcases List.mem_cons.mp h1 with e | e
        · rw [e]; exact List.mem_cons_self
        · exact List.mem_cons_of_mem _ (List.mem_cons_of_mem _ e)
      · rcases List.mem_cons.mp hy with rfl | hy
        · exact h2 _ List.mem_cons_self
        · rcases List.mem_cons.mp hy with rfl | hy
          · have := h2 x List.mem_cons_self
            omega
          · exact h2 y (List.mem_cons_of_mem _ hy)
theorem hold_ints {h : Heap} : ∀ {vs : List Value} {ns : List Int}, IntsAre vs ns → PySem.W.HoldAll h vs ns
  | _, _, .nil => PySem.W.HoldAll.nil
  | _, _, .cons n t r => PySem.W.HoldAll.cons ⟨_, Reads.int n t⟩ (hold_ints r)
theorem holds_int_of {h : Heap} {v : Value} {m : Int} (hh : PySem.W.Holds h v m) : ∃ t, v = .int m t := by
  obtain ⟨as, r⟩ := hh
  have r' : Reads h v (.int m) as := r
  cases r' with
  | int i t => exact ⟨_, rfl⟩
section
variable {X : Cx} {k : Nat}
def rMinS (K : PySem.W.Frag) (le : Int → Int → Prop) : List V → Hp → VK → Prop := fun vs H Q => ∃ (a : Addr) (ns : List Int), vs = [V.ref a] ∧ (SqL K H a (ns.map V.int) ∨ SqT K H a (ns.map V.int)) ∧ ns ≠ [] ∧ ∀ m, m ∈ ns → (∀ y ∈ ns, le m y) → Q (.int m) H
theorem cr_minS (hc : X.calm = true) (hr : Room k X.A) : CallR X (.builtin "min") (rMinS X.K fun m y => m ≤ y) := by
  intro pins s σ H vs us Q I r h
  obtain ⟨a, ns, rfl, hs, hne, q⟩ := h
  rcases hs with hs | hs
  · exact cr_min hc pins s σ H _ us Q I r ⟨a, ns, rfl, hs, List.length_pos_iff.mpr hne, q⟩
  · obtain ⟨its, rv, hl, _⟩ := I.tuple hs
    rw [Vals.ref1 r]
    cases ns with
    | nil => exact absurd rfl hne
    | cons x xs =>
      have hu : X.A.units + 1 + PySem.W.Datum.depth Int < cLine := by
        have h1 := hr.un
        have h2 : PySem.W.Datum.depth Int ≤ 10 := by decide
        omega
      refine PySem.W.min_tuple_datum (α := Int) (x := x) (xs := xs) (vs := its.toArray) (I.ok.hd hc) hl (hold_ints (by simpa using rv.ints)) hu fun i v h' tk hv hh hk => ?_
      obtain ⟨t, rfl⟩ := holds_int_of hh
      obtain ⟨h1, h2⟩ := min_facts x xs
      exact ⟨.int _, H, I.kept hk, ⟨_, rfl⟩, q _ h1 h2⟩
theorem cr_maxS (hc : X.calm = true) (hr : Room k X.A) : CallR X (.builtin "max") (rMinS X.K fun m y => y ≤ m) := by
  intro pins s σ H vs us Q I r h
  obtain ⟨a, ns, rfl, hs, hne, q⟩ := h
  rcases hs with hs | hs
  · exact cr_max hc pins s σ H _ us Q I r ⟨a, ns, rfl, hs, List.length_pos_iff.mpr hne, q⟩
  · obtain ⟨its, rv, hl, _⟩ := I.tuple hs
    rw [Vals.ref1 r]
    cases ns with
    | nil => exact absurd rfl hne
    | cons x xs =>
      have hu : X.A.units + 1 + PySem.W.Datum.depth Int < cLine := by
        have h1 := hr.un
        have h2 : PySem.W.Datum.depth Int ≤ 10 := by decide
        omega
      refine PySem.W.max_tuple_datum (α := Int) (x := x) (xs := xs) (vs := its.toArray) (I.ok.hd hc) hl (hold_ints (by simpa using rv.ints)) hu fun i v h' tk hv hh hk => ?_
      obtain ⟨t, rfl⟩ := holds_int_of hh
      obtain ⟨h1, h2⟩ := max_facts x xs
      exact ⟨.int _, H, I.kept hk, ⟨_, rfl⟩, q _ h1 h2⟩

/-! ### repr(x) of data -/
def rRepr (K : PySem.W.Frag) : List V → Hp → VK → Prop := fun vs H Q => ∃ x d, vs = [x] ∧ Dp K H x d ∧ d.showable = true ∧ d.hasDict = false ∧ d.shown.length ≤ sizeLine ∧ d.depth ≤ 10 ∧ Q (.str d.shown) H
theorem cr_repr (hg : X.A.guards = some []) (hu : X.A.units + 64 < cLine) : CallR X (.builtin "repr") (rRepr X.K) := by
  intro pins s σ H vs us Q I r h
  obtain ⟨x, d, rfl, hd, h1, h2, h3, h4, q⟩ := h
  obtain ⟨u, rfl, rx⟩ := vals1 r
  obtain ⟨as, rd⟩ := Dp.reads I d x u hd rx
  have fin : ∀ h' (t : Tok) tk, (∀ b o, s.heap.get? b = some o → h'.get? b = some o) → EP X pins σ Q (.str d.shown t) { s with heap := h', toks := tk } := fun h' t tk hk => ⟨.str d.shown, H, I.kept hk, ⟨_, rfl⟩, q⟩
  cases hd with
  | non =>
    cases rx
    exact PySem.P.repr_of_none (fin _ _ _ fun _ _ e => e)
  | bl b =>
    cases rx
    exact PySem.P.repr_of_bool (fin _ _ _ fun _ _ e => e)
  | int i =>
    obtain ⟨t, rfl⟩ := rx
    exact PySem.P.repr_of_int (of_decide_eq_true h1) (fin _ _ _ fun _ _ e => e)
  | str z =>
    obtain ⟨t, rfl⟩ := rx
    exact PySem.P.repr_of_str (fin _ _ _ fun _ _ e => e) h3
  | lst hs ha =>
    cases rx
    exact repr_of_reads' rd h1 (PyData.noDict_hsm h2) hg (by omega) (fun _ _ e => e) (fun h' t tk hk => fin h' t tk hk) h3
  | tup hs ha =>
    cases rx
    exact repr_of_reads' rd h1 (PyData.noDict_hsm h2) hg (by omega) (fun _ _ e => e) (fun h' t tk hk => fin h' t tk hk) h3
end

/-! ### a def's promise where no repr is under way -/
structure FnOkG (P : Program) (w : World) (K : PySem.W.Frag) (mg : Str → Option Value) (base : Heap) (CX : CXT) (k : Nat) (f : Addr) (fd : FuncData) (ps : List Str) (sp : Sp) : Prop where
  len : ∀ vs H Q E, sp vs H Q E → vs.length = ps.length
  run : ∀ (A : Around) (outer : List Env) (s : Shared) (H : Hp) (args : Args) (us : List Value) (vs : List V) (Q : VK) (E : XK), Room k A → A.guards = some [] → Env0 P w K mg base A outer s H → BindsTo s fd args (ps.zip us) → Vals vs us → sp vs H Q E →
    codeAny (model P w) A (.call (.ref f) args) (CR CX outer P w H s Q E) s
theorem FnOkG.mono {P : Program} {w : World} {K : PySem.W.Frag} {mg : Str → Option Value} {base : Heap} {CX : CXT} {j k : Nat} {f : Addr} {fd : FuncData} {ps : List Str} {sp : Sp} (F : FnOkG P w K mg base CX j f fd ps sp) (h : j ≤ k) :
    FnOkG P w K mg base CX k f fd ps sp := ⟨F.len, fun A outer s H args us vs Q E hr => F.run A outer s H args us vs Q E (hr.mono h)⟩
theorem okG {P : Program} {w : World} {K : PySem.W.Frag} {mg : Str → Option Value} {base : Heap} {x qual : Str} {params : Arguments} {body : List Stmt} {scope : Scope} {dvs : List V} {kws : List (Str × V)} {f : Addr} {fd : FuncData} {CX : CXT} {N ps : List Str} {k : Nat} {sp : Sp}
    (F : FunD K x qual params body scope dvs kws f fd) (S : FnScope N ps scope) (len : ∀ vs H Q E, sp vs H Q E → vs.length = ps.length)
    (hbody : ∀ (cdv : Value) (A : Around) (outer : List Env) (s : Shared) (H : Hp) (vs : List V) (Q : VK) (E : XK), Room k (A.deeper (envOfC qual scope s.heap.objs.size f cdv)) → (A.deeper (envOfC qual scope s.heap.objs.size f cdv)).guards = some [] → sp vs H Q E →
      ∃ t, PSs (cxOf CX P w K mg base N qual scope f cdv A outer s H E) body t ∧ t { nx := fun _ H' => Q .non H', rt := Q } (L2.start N vs) H) : FnOkG P w K mg base CX (k + 1) f fd ps sp := by
  obtain ⟨oc, od, dV, kV, doc, pm, an, cdv, ct, osl, rfl, lk, hcd, _, _⟩ := F.ex
  exact ⟨len, fun A outer s H args us vs Q E hr hg e0 hb r hsp => LamX.run_ofS lk hcd S hr e0 hb r (len _ _ _ _ hsp) fun hr' => hbody cdv A outer s H vs Q E hr' hg hsp⟩
section
variable {X : Cx} {CX : CXT} {k : Nat} {f : Addr} {fd : FuncData} {ps : List Str} {sp : Sp} {dvs : List V} {ds : List Value} {E : XK} {x : Str} {p pos : Pos} {e : Expr} {es : List Expr} {t : TA}
theorem pe_callG (F : FnOkG X.prog X.w X.K X.mg X.base CX k f fd ps sp) (hr : Room k X.A) (hz : X.A.guards = some []) (hg : Gl X x) (hm : X.mg x = some (.ref f)) (hk : PySem.W.keepIn X.K (.ref f) = true) (hb : Binds X.K fd ps []) (hx : Passes CX X E)
    (ha : PA X (e :: es) t) (hdb : (x == ("__debug__" : Str)) = false := by decide) (he : starEach (e :: es) X.env = (false, eval e X.env) :: starEach es X.env := by rfl) (hpl : (backTo pos (starEach es X.env)).any (·.1) = false := by rfl) :
    PE X (.Call (.Name x p) (e :: es) [] pos) (tCall sp [] E t) := by
  refine ⟨fun pins s σ H Q I h => ?_⟩
  refine wpAny_Call_Name_kw (ld_glob I hg hm ?_ hdb)
  refine PySem.W.callWith_K (h₀ := X.base) I.ok.mod.kin hk (thn (ha.run pos pins s σ H _ I h) fun us s1 ⟨vs, H1, I1, r, q⟩ => ⟨I1.kIn, ?_⟩) he hpl
  replace q : sp vs H1 Q E := by have q0 : sp (vs ++ []) H1 Q E := q; rwa [List.append_nil] at q0
  have hl : us.length = ps.length := by rw [← r.length]; exact F.len _ _ _ _ q
  have hbind := hb s1 us I1.kIn (by rw [List.append_nil]; exact hl)
  rw [List.append_nil] at hbind
  show wpAny _ _ (call (.ref f) us) _ _ _
  refine wpAny_call (codeAny_mono (F.run X.A X.stack s1 H1 ⟨us, []⟩ us vs Q E hr hz I1.env0 hbind r q) fun r' s' hq => ?_)
  cases r' with
  | error e => exact hx pins σ H1 s1 e s' I1 hq
  | ok fl =>
    cases fl with
    | ret u => exact I1.after hq
    | next => exact False.elim hq
    | brk => exact False.elim hq
    | cont => exact False.elim hq
end
end Rk
set_option maxHeartbeats 4000000
/-! Rules of our own, fourth part: an own base class of exceptions, several clauses «except X as e», a def with all that a call of it wants. -/
namespace Rk
open PySem PySem.Spec PyProof.Rows L2

/-! ### Base.__init__(self, ..), Base an own class over ValueError without __init__ -/
/-- the class at CL as a place where __init__ is read -/
structure LeC (K : PySem.W.Frag) (CL : Addr) : Prop where
  rd : PySem.W.readsIn K CL (.type "type") = true
  ga : PySem.W.specialIn K (.ref CL) "__getattribute__" = some (some (.builtin "type.__getattribute__"))
  ini : PySem.W.findCls K (.ref CL) (.type "type") "__init__" = some (.val (.builtin "ValueError.__init__"))
section
variable {X : Cx} {x : Str} {CL : Addr} {e : Expr} {es : List Expr} {ta : TA} {p1 p2 pos : Pos}
theorem pe_ldinit {pl : Sem Bool} (hg : Gl X x) (hm : X.mg x = some (.ref CL)) (T : LeC X.K CL) (ha : PA X (e :: es) ta) (hdb : (x == ("__debug__" : Str)) = false := by decide)
    (hc : eval (.Call (.Attribute (.Name x p1) "__init__" p2) (e :: es) [] pos) X.env = (do
      let ov ← eval (.Name x p1) X.env
      standAt p2.atName
      let (f, first) ← holding [ov] (getMethod ov "__init__" pl)
      callWith pos f first (backTo pos (starEach (e :: es) X.env)) (backToKw pos (keywordEach [] X.env))) := by rfl)
    (he : starEach (e :: es) X.env = (false, eval e X.env) :: starEach es X.env := by rfl) (hpl : (backTo pos (starEach es X.env)).any (·.1) = false := by rfl) :
    PE X (.Call (.Attribute (.Name x p1) "__init__" p2) (e :: es) [] pos) (tVeI X.K ta) := by
  refine ⟨fun pins s σ H Q I h => ?_⟩
  refine PySem.W.methodCall_KW (ld_glob I hg hm ?_ hdb) hc
  refine PySem.W.method_cls I.kIn T.ga (PySem.W.cls_value I.kIn T.rd T.ini (by decide +kernel) ?_)
  have I0 := I.tok (s.toks + 1)
  refine PyProof.Rows.callWith_method1 (thn (ha.run pos pins _ σ H _ I0 h) fun us s1 z => ?_) he hpl
  obtain ⟨vs, H1, I1, r1, a, C, ws, rfl, hl, O, ea, q⟩ := z
  cases r1 with
  | @cons _ u0 _ ur ra rr =>
    obtain rfl : u0 = Value.ref a := ra
    refine oinit_ok O I1 ea ?_ fun s' J => ⟨.non, H1, J, rfl, q⟩
    have e1 := Paired.length rr
    have e2 := sizeLine_eq
    omega
end

/-! ### several clauses, each with a name -/
/-- one clause's slot taken away behind its suite -/
def behind (i : Nat) (D : Ends) : Ends := { nx := fun σ' H' => D.nx (σ'.set i none) H', rt := D.rt, bk := fun σ' H' => D.bk (σ'.set i none) H', ct := fun σ' H' => D.ct (σ'.set i none) H' }
abbrev Clause : Type := Value × Nat × (Addr → Value → Option Addr → TS)
/-- what the clauses wish: the first one that fits takes it -/
def wAsN (K : PySem.W.Frag) (Wout : WX) (D : Ends) : List Clause → WX
  | [] => Wout
  | (c, i, ts) :: r => fun cls d σ H => ∃ b, PySem.W.exmOne K cls c = some b ∧ (b = true → ∀ a, H a = none → ts a cls d (behind i D) (σ.set i (some (.ref a))) H) ∧ (b = false → wAsN K Wout D r cls d σ H)
inductive ClsOk (X : Cx) : List ExceptHandler → List Clause → Prop
  | nil : ClsOk X [] []
  | cons {x n : Str} {c : Value} {i : Nat} {ts : Addr → Value → Option Addr → TS} {b0 : Stmt} {suite : List Stmt} {np pos' : Pos} {hds : List ExceptHandler} {l : List Clause} (hc : Names X x c) (hi : X.N[i]? = some n) (hln : X.env.kindOf n = some .local)
      (hsu : ∀ (a : Addr) (oe : Obj) (cls : Value) (d : Option Addr) (pn : List (Addr × Obj)), Zc cls d oe → (∃ vs, oe.data = .fields vs) → PSs (X.suite a ((a, oe) :: pn)) (b0 :: suite) (ts a cls d)) (r : ClsOk X hds l) :
      ClsOk X (.ExceptHandler (some (.Name x np)) (some n) (b0 :: suite) pos' :: hds) ((c, i, ts) :: l)
section
variable {X : Cx} {body : List Stmt} {hd0 : ExceptHandler} {hds : List ExceptHandler} {l : List Clause} {pos : Pos} {tb : WX → TS} {Wout : WX}
/-- the wish of a try's body: note it, land it, ask the clauses -/
abbrev lands (X : Cx) (pins : List (Addr × Obj)) (D : Ends) (hds : List ExceptHandler) : Value → Shared → Prop := fun e s₁ => wpAny (model X.prog X.w) X.A (noteFrame e X.env) (fun _ s₂ => wpAny (model X.prog X.w) X.A (setFlight e none)
    (fun _ s₃ => wpAny (model X.prog X.w) X.A (handleBy e X.env hds) (SP X pins D) X.xe s₃) X.xe s₂) X.xe s₁
theorem ps_try_asN (hs : X.stack = X.env :: X.outer) (hf : X.env.frame = some X.env.locals) (hN : X.N.Nodup) (tk : Takes X Wout)
    (hb : ∀ (W : WX) (pn : List (Addr × Obj)) (xe : Value → Shared → Prop), Takes (X.tr pn xe) W → PassesOwn (model X.prog X.w) X.A X.env xe → PSs (X.tr pn xe) body (tb W))
    (hh : ClsOk X (hd0 :: hds) l) : PS X (.Try body (hd0 :: hds) [] [] pos) (fun D σ H => tb (wAsN X.K Wout D l) D σ H) := by
  refine ⟨fun pins s σ H D I h => ?_⟩
  have ok := I.ok
  have hfr : X.A.frames = some (X.env :: X.outer) := ok.frames.trans (by rw [hs])
  have catches : Takes (X.tr (X.pn ++ pins) (lands X pins D (hd0 :: hds))) (wAsN X.K Wout D l) := fun u s' xx => by
    obtain ⟨a, B, sI, pins', τ, G, cls, d, rfl, J', nb, up, sky, na, os, ag, w⟩ := xx
    have J := Inv.ofTry J' ok
    have sky : Sky B X.stack a (Zc cls d) X.env.locals s'.heap := sky
    rw [hs] at sky
    show wpAny (model X.prog X.w) X.A (noteFrame (.ref a) X.env) _ _ _
    refine Sky.land Zc.steady hfr hf sky fun h3 fl3 up3 => ?_
    obtain ⟨oe3, vs3, he3, hz3, hd3⟩ := fl3.there
    have J3 := J.landed (s' := { s' with heap := h3 }) nb fl3.1 (up.trans up3) os ag
    have nfr : a ∉ frs (X.env :: X.outer) := fun hm => by
      obtain ⟨_, o', e', hnf⟩ := fl3.2.2.1.mem hm
      rw [he3] at e'
      exact hnf vs3 ((congrArg Obj.data (Option.some.inj e')).symm.trans hd3)
    have nL : a ≠ X.env.locals := fun z => nfr (List.mem_filterMap.mpr ⟨_, List.mem_cons_self, hf.trans (congrArg some z.symm)⟩)
    have nF : a ∉ X.fs := fun hm => by
      obtain ⟨v, hv, q⟩ := List.mem_filterMap.mp hm
      exact nfr (List.mem_filterMap.mpr ⟨v, List.mem_cons_of_mem _ hv, q⟩)
    have S3 := J3.suite he3 hd3 na nL nF
    have LT : PySem.W.Looks (model X.prog X.w) h3 (typeOf (.ref a)) cls := fun A Q E s k q => wpAny_typeOf_ref (k a oe3 he3) (by rw [hz3.1]; exact q)
    suffices go : ∀ {hds' : List ExceptHandler} {l' : List Clause}, ClsOk X hds' l' → wAsN X.K Wout D l' cls d τ G → wpAny (model X.prog X.w) X.A (handleBy (.ref a) X.env hds') (SP X pins D) X.xe { s' with heap := h3 } from go hh w
    intro hds' l' hk
    clear w hh
    induction hk with
    | nil =>
      intro w
      refine wpAny_handleBy_nil ?_
      obtain ⟨_, _, _, oe, vs, T, oT, ts', he, _, hd, h1, _⟩ := id fl3
      unfold PySem.passOn
      refine wpAny_bind (wpAny_field he hd h1 ?_)
      rw [if_neg (by simp)]
      have fin : wpAny (model X.prog X.w) X.A (setFlight (.ref a) X.env.frame) (fun _ s4 => wpAny (model X.prog X.w) X.A (throw (.ref a) : Sem Flow) (SP X pins D) X.xe s4) X.xe { s' with heap := h3 } := by
        rw [hf]
        refine HandSPX.setFlight_upZ fl3 fun h4 hh4 up4 => wpAny_throw (tk _ _ ⟨a, B, sI, pins, τ, G, cls, d, rfl, J, nb, (up.trans up3).trans up4, .inr (.inr ?_), na, os, ag, w⟩)
        rw [hs]
        exact hh4
      first
        | exact wpAny_bind (wpAny_pure (wpAny_bind fin))
        | exact wpAny_bind fin
    | @cons x n c i ts b0 suite np pos' hds2 l2 hc hi hln hsu r ih =>
      intro w
      obtain ⟨b, hb1, hyes, hno⟩ := w
      refine wpAny_handleBy_cons (codeAny_handlers_test ?_) (by intro q; cases q)
      have LM := PySem.W.exm_one (M := model X.prog X.w) (J3.kIn) LT hb1
      have test : ∀ {Q' : Value → Shared → Prop} {E' : Value → Shared → Prop}, Q' c { s' with heap := h3 } → wpAny (model X.prog X.w) (X.A.mark (some (.ref a))) (eval (.Name x np) X.env) Q' E' { s' with heap := h3 } := fun {Q' E'} q => by
        rcases hc with ⟨hg, hdbg, hm | ⟨hm, hv, hnn⟩⟩
        · exact ld_glob (X := X.suite a ((a, oe3) :: (X.pn ++ pins))) S3 hg hm q hdbg
        · exact ld_blt (X := X.suite a ((a, oe3) :: (X.pn ++ pins))) S3 hg hm hv q hnn hdbg
      refine test (LM.here ?_)
      cases b with
      | false => exact ih (hno rfl)
      | true =>
        refine codeAny_handlers_suite_as (HandSPX.lands_againZ fl3 fun h4 fl4 up4 => ?_)
        obtain ⟨oe4, vs4, he4, hz4, hd4⟩ := fl4.there
        have S4 := (J.landed (s' := { s' with heap := h4 }) nb fl4.1 ((up.trans up3).trans up4) os ag).suite he4 hd4 na nL nF
        refine store_ok (X := X.suite a ((a, oe4) :: (X.pn ++ pins))) (v := .ref a) S4 hN hi (.inl hln) rfl (fun s5 S5 => ?_) (.inr hln)
        refine wpAny_mono ((hsu a oe4 cls d (X.pn ++ pins) hz4 ⟨_, hd4⟩).run [] s5 _ G _ S5 (hyes rfl a na)) (fun f s6 hsp => ?_) (fun _ _ z => z.elim)
        have last : ∀ {σ6 : L2.St} {H6 : Hp} {Q' : Shared → Prop}, Inv (X.suite a ((a, oe4) :: (X.pn ++ pins))) [] σ6 H6 s6 → (∀ s7, Inv X pins (σ6.set i none) H6 s7 → Q' s7) →
            wpAny (model X.prog X.w) X.A (do bindName X.env n .none; unbindBehindTheSuite X.env n pos') (fun _ s7 => Q' s7) X.xe s6 := fun S6 hq => gone_ok (S6.unsuite ok) hN hi hln hq
        cases f with
        | ret u =>
          obtain ⟨v6, σ6, H6, S6, r6, q6⟩ := hsp
          exact last S6 fun s7 J7 => ⟨_, _, _, J7, r6, q6⟩
        | next =>
          obtain ⟨σ6, H6, S6, q6⟩ := hsp
          exact last S6 fun s7 J7 => ⟨_, _, J7, q6⟩
        | brk =>
          obtain ⟨σ6, H6, S6, q6⟩ := hsp
          exact last S6 fun s7 J7 => ⟨_, _, J7, q6⟩
        | cont =>
          obtain ⟨σ6, H6, S6, q6⟩ := hsp
          exact last S6 fun s7 J7 => ⟨_, _, J7, q6⟩
  have body_ := (hb (wAsN X.K Wout D l) (X.pn ++ pins) (lands X pins D (hd0 :: hds)) catches PassesOwn.looking).run [] s σ H D (I.toTry _) h
  refine wpAny_Try_except (wpAny_mono body_ (fun f s1 hsp => ?_) fun e s1 he => he)
  cases f with
  | next =>
    obtain ⟨τ, G, J', q⟩ := hsp
    exact wpAny_execs_nil ⟨τ, G, J'.ofTry ok, q⟩
  | brk =>
    obtain ⟨τ, G, J', q⟩ := hsp
    exact ⟨τ, G, J'.ofTry ok, q⟩
  | cont =>
    obtain ⟨τ, G, J', q⟩ := hsp
    exact ⟨τ, G, J'.ofTry ok, q⟩
  | ret u =>
    obtain ⟨v, τ, G, J', r, q⟩ := hsp
    exact ⟨v, τ, G, J'.ofTry ok, r, q⟩
end

/-! ### a def and all that a call of it wants -/
/-- the module's name x holds a def that keeps sp -/
structure Df (P : Program) (w : World) (K : PySem.W.Frag) (mg : Str → Option Value) (base : Heap) (k : Nat) (x : Str) (ps : List Str) (sp : Sp) : Prop where
  ex : ∃ (f : Addr) (fd : FuncData), FnOk P w K mg base (L2.CX P w) k f fd ps sp ∧ mg x = some (.ref f) ∧ PySem.W.keepIn K (.ref f) = true ∧ Binds K fd ps []
/-- .. where no repr is under way -/
structure DfG (P : Program) (w : World) (K : PySem.W.Frag) (mg : Str → Option Value) (base : Heap) (k : Nat) (x : Str) (ps : List Str) (sp : Sp) : Prop where
  ex : ∃ (f : Addr) (fd : FuncData), FnOkG P w K mg base (L2.CX P w) k f fd ps sp ∧ mg x = some (.ref f) ∧ PySem.W.keepIn K (.ref f) = true ∧ Binds K fd ps []
/-- the class at C has a method m that keeps sp -/
structure Md (P : Program) (w : World) (K : PySem.W.Frag) (mg : Str → Option Value) (base : Heap) (C : Addr) (k : Nat) (m : Str) (ps : List Str) (sp : Sp) : Prop where
  ex : ∃ (f : Addr) (fd : FuncData), Meth K C m f ∧ FnOk P w K mg base (L2.CX P w) k f fd ps sp ∧ Binds K fd ps []
/-- the class at C is made by an __init__ that keeps sp -/
structure Ck (P : Program) (w : World) (K : PySem.W.Frag) (mg : Str → Option Value) (base : Heap) (x : Str) (C : Addr) (k : Nat) (ps : List Str) (sp : Sp) : Prop where
  ex : ∃ (f : Addr) (fd : FuncData), Mk K C f ∧ FnOk P w K mg base (L2.CX P w) k f fd ps sp ∧ mg x = some (.ref C) ∧ Binds K fd ps []
def tC (sp : Sp) (E : XK) (t : TA) : TE := fun σ H Q => t σ H fun vs H1 => sp vs H1 Q E
def tCS (sp : Sp) (W : WX) (t : TA) : TE := fun σ H Q => t σ H fun vs H1 => sp vs H1 Q (fun cls d H' => W cls d σ H')
def tM (C : Addr) (m : Str) (sp : Sp) (E : XK) (to : TE) (t : TA) : TE := fun σ H Q => to σ H fun x H1 => ∃ a dx fs, x = .ref a ∧ H1 a = some (.ins C dx fs) ∧ fs.lookup m = none ∧ t σ H1 fun vs H2 => sp (x :: vs) H2 Q E
def tMk (C : Addr) (sp : Sp) (E : XK) (t : TA) : TE := fun σ H Q => t σ H fun vs H1 => ∀ x dx, H1 x = none → H1 dx = none → dx ≠ x → sp (.ref x :: vs) (upd (upd H1 dx (.own x)) x (.ins C dx [])) (fun v H2 => v = .non ∧ Q (.ref x) H2) E
section
variable {X : Cx} {k : Nat} {x m : Str} {C : Addr} {ps : List Str} {sp : Sp} {E : XK} {o e : Expr} {es : List Expr} {to : TE} {t : TA} {p apos pos : Pos}
theorem PE.imp {t t' : TE} (h : PE X e t) (i : ∀ σ H Q, t' σ H Q → t σ H Q) : PE X e t' := ⟨fun pins s σ H Q I q => h.run pins s σ H Q I (i _ _ _ q)⟩
theorem pe_df (D : Df X.prog X.w X.K X.mg X.base k x ps sp) (hr : Room k X.A) (hx : Passes (L2.CX X.prog X.w) X E) (hg : Gl X x) (ha : PA X (e :: es) t) (hdb : (x == ("__debug__" : Str)) = false := by decide)
    (he : starEach (e :: es) X.env = (false, eval e X.env) :: starEach es X.env := by rfl) (hpl : (backTo pos (starEach es X.env)).any (·.1) = false := by rfl) : PE X (.Call (.Name x p) (e :: es) [] pos) (tC sp E t) := by
  obtain ⟨f, fd, F, hm, hk, hb⟩ := D.ex
  refine PE.imp (pe_call F hr hg hm hk hb .nil hx ha hdb he hpl) fun σ H Q q => ?_
  unfold tCall
  simp only [List.append_nil]
  exact q
theorem pe_df0 (D : Df X.prog X.w X.K X.mg X.base k x ps sp) (hr : Room k X.A) (hx : Passes (L2.CX X.prog X.w) X E) (hg : Gl X x) (hdb : (x == ("__debug__" : Str)) = false := by decide) : PE X (.Call (.Name x p) [] [] pos) (fun σ H Q => sp [] H Q E) := by
  obtain ⟨f, fd, F, hm, hk, hb⟩ := D.ex
  exact PE.imp (pe_call0 F hr hg hm hk hb .nil hx hdb) fun σ H Q q => q
theorem pe_dfG (D : DfG X.prog X.w X.K X.mg X.base k x ps sp) (hr : Room k X.A) (hz : X.A.guards = some []) (hx : Passes (L2.CX X.prog X.w) X E) (hg : Gl X x) (ha : PA X (e :: es) t) (hdb : (x == ("__debug__" : Str)) = false := by decide)
    (he : starEach (e :: es) X.env = (false, eval e X.env) :: starEach es X.env := by rfl) (hpl : (backTo pos (starEach es X.env)).any (·.1) = false := by rfl) : PE X (.Call (.Name x p) (e :: es) [] pos) (tC sp E t) := by
  obtain ⟨f, fd, F, hm, hk, hb⟩ := D.ex
  refine PE.imp (pe_callG F hr hz hg hm hk hb hx ha hdb he hpl) fun σ H Q q => ?_
  unfold tCall
  simp only [List.append_nil]
  exact q
theorem pe_md {pl : Sem Bool} (D : Md X.prog X.w X.K X.mg X.base C k m ps sp) (c : Cls X.K C) (hr : Room k X.A) (hx : Passes (L2.CX X.prog X.w) X E) (ho : PE X o to) (ha : PA X (e :: es) t)
    (he : starEach (e :: es) X.env = (false, eval e X.env) :: starEach es X.env := by rfl) (hpl : (backTo pos (starEach es X.env)).any (·.1) = false := by rfl)
    (ht : eval (.Call (.Attribute o m apos) (e :: es) [] pos) X.env = (do
      let ov ← eval o X.env
      standAt apos.atName
      let (f, first) ← holding [ov] (getMethod ov m pl)
      callWith pos f first (backTo pos (starEach (e :: es) X.env)) (backToKw pos (keywordEach [] X.env))) := by rfl) : PE X (.Call (.Attribute o m apos) (e :: es) [] pos) (tM C m sp E to t) := by
  obtain ⟨f, fd, hm, F, hb⟩ := D.ex
  refine PE.imp (pe_meth ho c hm F hr hb .nil hx ha he hpl ht) fun σ H Q q => ?_
  unfold tMeth
  simp only [List.append_nil]
  exact q
theorem pe_md0 {pl : Sem Bool} (D : Md X.prog X.w X.K X.mg X.base C k m ps sp) (c : Cls X.K C) (hr : Room k X.A) (hx : Passes (L2.CX X.prog X.w) X E) (ho : PE X o to)
    (ht : eval (.Call (.Attribute o m apos) [] [] pos) X.env = (do
      let ov ← eval o X.env
      standAt apos.atName
      let (f, first) ← holding [ov] (getMethod ov m pl)
      callWith pos f first (backTo pos (starEach [] X.env)) (backToKw pos (keywordEach [] X.env))) := by rfl) : PE X (.Call (.Attribute o m apos) [] [] pos) (tM C m sp E to tNil) := by
  obtain ⟨f, fd, hm, F, hb⟩ := D.ex
  exact PE.imp (pe_meth0 ho c hm F hr hb .nil hx ht) fun σ H Q q => q
theorem pe_ck (D : Ck X.prog X.w X.K X.mg X.base x C k ps sp) (hr : Room (k + 1) X.A) (hx : Passes (L2.CX X.prog X.w) X E) (hg : Gl X x) (ha : PA X (e :: es) t) (hdb : (x == ("__debug__" : Str)) = false := by decide)
    (he : starEach (e :: es) X.env = (false, eval e X.env) :: starEach es X.env := by rfl) (hpl : (backTo pos (starEach es X.env)).any (·.1) = false := by rfl) : PE X (.Call (.Name x p) (e :: es) [] pos) (tMk C sp E t) := by
  obtain ⟨f, fd, M, F, hm, hb⟩ := D.ex
  refine PE.imp (pe_make M F hr hg hm hb .nil hx ha hdb he hpl) fun σ H Q q => ?_
  unfold tMake
  simp only [List.append_nil]
  exact q
/-- a def that lets exceptions through: what a callee lets out -/
theorem thru {E : XK} (hs : X.stack = X.env :: X.outer) (hf : X.env.frame = some X.env.locals) (hex : X.ex = []) {E₁ : Value → Shared → Prop}
    (hx : X.xe = fun e s' => wpAny (model X.prog X.w) X.A (leaving X.env e) (fun _ s'' => L2.CX X.prog X.w X.outer X.H_0 X.s_0 E e s'') E₁ s') : Passes (L2.CX X.prog X.w) X E :=
  passes_call (takes_of hs hf hex hx) fun _ _ _ _ h => h
end
end Rk
set_option maxHeartbeats 4000000
/-! Rules of our own, fifth part: lambdas that capture names, kept in lists and handed on. -/
namespace Rk
open PySem PySem.Spec PyProof.Rows L2

/-- at f: a lambda of this text, its captured cells cl, its code object at c -/
def LamO (f : Addr) (q : Str) (params : Arguments) (body : Expr) (scope : Scope) (cl : List (Str × Addr)) (c : Addr) : HO :=
  .ext fun h => ∃ pm ctv : Value, h.get? f = some (PySem.W.kla_obj "<lambda>" q params body scope cl pm c ctv)
theorem lamO_ok {P : Program} {w : World} {H : Hp} {h : Heap} {f : Addr} {q : Str} {params : Arguments} {body : Expr} {scope : Scope} {cl : List (Str × Addr)} {c : Addr} {pm ctv : Value} (e : h.get? f = some (PySem.W.kla_obj "<lambda>" q params body scope cl pm c ctv)) :
    ObjOk P w H h f (LamO f q params body scope cl c) :=
  ⟨⟨pm, ctv, e⟩, ⟨_, e⟩, fun h1 h2 ⟨a, b, z⟩ k => ⟨a, b, k _ z⟩⟩
theorem lamO_at {P : Program} {w : World} {H : Hp} {h : Heap} {f : Addr} {q : Str} {params : Arguments} {body : Expr} {scope : Scope} {cl : List (Str × Addr)} {c : Addr} (hok : HOk P w H h) (e : H f = some (LamO f q params body scope cl c)) :
    ∃ pm ctv : Value, h.get? f = some (PySem.W.kla_obj "<lambda>" q params body scope cl pm c ctv) := by
  have x : ObjOk P w H h f (.ext fun h => ∃ pm ctv : Value, h.get? f = some (PySem.W.kla_obj "<lambda>" q params body scope cl pm c ctv)) := hok f _ e
  exact x.1
theorem codeO_at {P : Program} {w : World} {H : Hp} {h : Heap} {c : Addr} {q : Str} (hok : HOk P w H h) (e : H c = some (LamX.CodeO c q)) : ∃ (oc : Obj) (vs : Array Value) (t : Tok), h.get? c = some oc ∧ oc.data = .fields vs ∧ vs[1]? = some (.str q t) := by
  have x : ObjOk P w H h c (.ext fun h => ∃ (oc : Obj) (vs : Array Value) (t : Tok), h.get? c = some oc ∧ oc.data = .fields vs ∧ vs[1]? = some (.str q t)) := hok c _ e
  exact x.1

/-! ### making one -/
/-- the reading: the lambda stands at a new place f, its code object is known, the tables hold -/
def tLamN (X : Cx) (T : List (Addr × Str)) (params : Arguments) (body : Expr) (scope : Scope) : TE := fun σ H Q => LamX.Tabs T H ∧ ∀ (f c : Addr) (H1 H2 : Hp), LamX.ExtN H H1 → H1 f = none → H2 = upd H1 f (LamO f (X.env.qual ++ "<lambda>") params body scope (cloFrom X.env.cells scope.names []) c) → LamX.Tabs T H2 →
  H2 c = some (LamX.CodeO c (X.env.qual ++ "<lambda>")) → Q (.ref f) H2
section
variable {X : Cx}
theorem pe_lamN {T : List (Addr × Str)} {c P : Addr} {params : Arguments} {body : Expr} {scope : Scope} {pos : Pos} (TB : LamX.TabB X.base X.mg c P) (hcode : X.env.code = .ref c) (hm : (P, X.env.qual ++ "<lambda>") ∈ T) (hu : ∀ p ∈ T, p.1 = P → p.2 = X.env.qual ++ "<lambda>")
    (hdef : defaultsOf params X.env = ([], [])) (hfree : ∀ y ∈ scope.names, y.2 = .free → Vis X.env.scope y.1 ∧ X.env.scope.names.lookup y.1 ≠ some .local) : PE X (.Lambda params body scope pos) (tLamN X T params body scope) := by
  refine ⟨fun pins s σ H Q I h => ?_⟩
  obtain ⟨hT, hq⟩ := h
  obtain ⟨ps, hP, ht, ha⟩ := hT _ hm
  have hP' : s.heap.get? P = some { cls := .none, data := .fields ps } := I.hok P _ hP
  have hcl := closure_ok (scope := scope) (env := X.env) fun y hy e => by
    obtain ⟨v, n⟩ := hfree y hy e
    rcases v with v | v
    · exact absurd v n
    · exact I.ok.has _ v
  refine PySem.W.kla_eval hdef ?_
  cases hc : codeAmong pos ps.toList with
  | some cv =>
    obtain ⟨c', e, hco⟩ := ha pos cv hc
    subst e
    refine PySem.W.kla_makeFunctionHit (mg := X.mg) hcl I.ok.glob (I.mod.glob.keeps I.bk) hcode (TB.code.keeps I.bk) hP' ht hc (TB.bm.keeps I.bk) fun ctv h' tk hx hsz => ?_
    have nf : H h'.objs.size = none := I.hok.fresh hsz
    refine ⟨.ref h'.objs.size, _, I.laid (t' := tk) (a := h'.objs.size) (fun b o e => Heap.get?_push_of_some _ (hx b o e)) hsz (lamO_ok (Heap.get?_push_size _ rfl)), rfl, hq _ c' H _ (LamX.ExtN.refl H) nf rfl (hT.ext fun b o e => ?_) ?_⟩
    · rw [upd_ne (ne_of_none e nf)]
      exact e
    · rw [upd_ne (ne_of_none hco nf)]
      exact hco
  | none =>
    refine PySem.W.kla_makeFunction (mg := X.mg) hcl I.ok.glob (I.mod.glob.keeps I.bk) hcode (TB.code.keeps I.bk) hP' ht hc TB.gP (TB.bm.keeps I.bk) fun c' ctv h' tk hx hge hlt hrec htb => ?_
    obtain ⟨c2, oc, vs, t, e2, hoc, hd, hv⟩ := hrec
    cases e2
    have nC : H c' = none := I.hok.fresh hge
    have I1 := LamX.inv_table (t' := tk) (q := X.env.qual ++ "<lambda>") (more := #[rawInt pos.line, rawInt pos.col, .ref c']) (h' := h') I hP hx htb hge ⟨oc, vs, t, hoc, hd, hv⟩
    obtain ⟨H1, e1⟩ : ∃ H1, H1 = upd (upd H P (.tbl (ps ++ #[rawInt pos.line, rawInt pos.col, .ref c']))) c' (LamX.CodeO c' (X.env.qual ++ "<lambda>")) := ⟨_, rfl⟩
    rw [← e1] at I1
    have hE : LamX.ExtN H H1 := fun b o e n => by
      rw [e1, upd_ne (ne_of_none e nC), upd_ne (fun z => n ps (Option.some.inj (e.symm.trans (by rw [z]; exact hP))))]
      exact e
    have atc : H1 c' = some (LamX.CodeO c' (X.env.qual ++ "<lambda>")) := by rw [e1, upd_same]
    have nf : H1 h'.objs.size = none := I1.hok.fresh (Nat.le_refl _)
    have T1 : LamX.Tabs T H1 := fun p hp => by
      by_cases hb : p.1 = P
      · rw [hu p hp hb, hb]
        refine ⟨ps ++ #[rawInt pos.line, rawInt pos.col, .ref c'], by rw [e1, upd_ne (ne_of_none hP nC), upd_same], ?_, fun p' cv hcv => ?_⟩
        · rw [Array.toList_append]
          exact PySem.TriplesOk_snoc _ _ _ _ ht
        · rw [Array.toList_append] at hcv
          rcases LamX.among_app _ ht hcv with z | z
          · obtain ⟨c0, z1, z2⟩ := ha p' cv z
            exact ⟨c0, z1, hE _ _ z2 LamX.codeO_ne⟩
          · exact ⟨c', z, atc⟩
      · obtain ⟨ps', a1, a2, a3⟩ := hT p hp
        refine ⟨ps', by rw [e1, upd_ne (ne_of_none a1 nC), upd_ne hb]; exact a1, a2, fun p' cv hcv => ?_⟩
        obtain ⟨c0, z1, z2⟩ := a3 p' cv hcv
        exact ⟨c0, z1, hE _ _ z2 LamX.codeO_ne⟩
    refine ⟨.ref h'.objs.size, _, I1.laid (t' := tk) (a := h'.objs.size) (fun b o e => Heap.get?_push_of_some _ e) (Nat.le_refl _) (lamO_ok (Heap.get?_push_size _ rfl)), rfl, hq _ c' H1 _ hE nf rfl (T1.ext fun b o e => ?_) ?_⟩
    · rw [upd_ne (ne_of_none e nf)]
      exact e
    · rw [upd_ne (ne_of_none atc nf)]
      exact atc
end

/-! ### cells lent to a callee -/
/-- the cells at L are known, by their objects -/
def lend (L : Addr → Option Obj) (H : Hp) : Hp := fun a => match L a with | some o => some (.frz o (.own 0)) | none => H a
/-- .. and taken back -/
def unl (L : Addr → Option Obj) (H : Hp) : Hp := fun a => match L a with | some _ => none | none => H a
theorem lend_some {L : Addr → Option Obj} {H : Hp} {a : Addr} {o : Obj} (h : L a = some o) : lend L H a = some (.frz o (.own 0)) := by
  unfold lend
  rw [h]
theorem lend_none {L : Addr → Option Obj} {H : Hp} {a : Addr} (h : L a = none) : lend L H a = H a := by
  unfold lend
  rw [h]
theorem unl_some {L : Addr → Option Obj} {H : Hp} {a : Addr} {o : Obj} (h : L a = some o) : unl L H a = none := by
  unfold unl
  rw [h]
theorem unl_none {L : Addr → Option Obj} {H : Hp} {a : Addr} (h : L a = none) : unl L H a = H a := by
  unfold unl
  rw [h]
/-- the cells at L stand known in H -/
def Lies (L : Addr → Option Obj) (H : Hp) : Prop := ∀ a o, L a = some o → H a = some (.frz o (.own 0))
theorem Lies.none {L : Addr → Option Obj} {H : Hp} {a : Addr} (h : Lies L H) (e : H a = Option.none) : L a = Option.none := by
  cases q : L a with
  | none => rfl
  | some o =>
    rw [h a o q] at e
    cases e
theorem Lies.same {L : Addr → Option Obj} {H H' : Hp} (h : Lies L H) (e : Same H H') : Lies L H' := fun a o q => e _ _ (h a o q)
theorem lies_lend {L : Addr → Option Obj} {H : Hp} : Lies L (lend L H) := fun a o h => lend_some h
theorem Lies.away {L : Addr → Option Obj} {H : Hp} {a : Addr} {u : HO} (h : Lies L H) (e : H a = some u) (n : ∀ o v, u ≠ .frz o v) : L a = Option.none := by
  cases q : L a with
  | none => rfl
  | some o =>
    rw [h a o q] at e
    exact absurd (Option.some.inj e).symm (n o (.own 0))
theorem unl_lend {L : Addr → Option Obj} {H : Hp} (h : ∀ a o, L a = some o → H a = none) : unl L (lend L H) = H := by
  funext a
  cases q : L a with
  | none => rw [unl_none q, lend_none q]
  | some o => rw [unl_some q, h a o q]
theorem lend_unl {L : Addr → Option Obj} {H : Hp} (h : Lies L H) : lend L (unl L H) = H := by
  funext a
  cases q : L a with
  | none => rw [lend_none q, unl_none q]
  | some o => rw [lend_some q, h a o q]
section
variable {P : Program} {w : World} {L : Addr → Option Obj} {H H' : Hp} {h h' : Heap}
/-- what is tracked without the cells is held, and so are the cells: all is held -/
theorem lend_ok (hok : HOk P w H h) (hn : ∀ a o, L a = some o → H a = none) (hg : ∀ a o, L a = some o → h.get? a = some o) : HOk P w (lend L H) h := fun b u e => by
  cases q : L b with
  | some o =>
    rw [lend_some q] at e
    cases e
    exact ⟨hg b o q, o, hg b o q⟩
  | none =>
    rw [lend_none q] at e
    have free : ∀ c v, H c = some v → L c = none := fun c v z => by
      cases q2 : L c with
      | none => rfl
      | some o =>
        rw [hn c o q2] at z
        cases z
    exact (hok b u e).stay (fun _ _ _ z => z) (fun c z => by rw [lend_none (free c _ z)]; exact z) fun c xs z => by rw [lend_none (free c _ z)]; exact z
theorem unl_ok (hok : HOk P w H h) (hl : Lies L H) : HOk P w (unl L H) h := fun b u e => by
  cases q : L b with
  | some o =>
    rw [unl_some q] at e
    cases e
  | none =>
    rw [unl_none q] at e
    refine (hok b u e).stay (fun _ _ _ z => z) (fun c z => ?_) fun c xs z => ?_
    · rw [unl_none (hl.away z fun _ _ y => by cases y)]
      exact z
    · rw [unl_none (hl.away z fun _ _ y => by cases y)]
      exact z
theorem lies_get (hok : HOk P w H h) (hl : Lies L H) {a : Addr} {o : Obj} (e : L a = some o) : h.get? a = some o := by
  have x : ObjOk P w H h a (.frz o (.own 0)) := hok a _ (hl a o e)
  exact x.1
end

/-! ### a lambda's promise -/
/-- what stands at f is called so and keeps sp -/
structure Th (P : Program) (w : World) (K : PySem.W.Frag) (mg : Str → Option Value) (base : Heap) (k : Nat) (f : Addr) (sp : Sp) : Prop where
  isF : ∀ vs H Q E h, sp vs H Q E → HOk P w H h → PySem.W.FnAt f h
  run : ∀ (A : Around) (outer : List Env) (s : Shared) (H : Hp) (us : List Value) (vs : List V) (Q : VK) (E : XK), Room k A → Env0 P w K mg base A outer s H → Vals vs us → sp vs H Q E → codeAny (model P w) A (.call (.ref f) ⟨us, []⟩) (CR (L2.CX P w) outer P w H s Q E) s
theorem Th.mono {P : Program} {w : World} {K : PySem.W.Frag} {mg : Str → Option Value} {base : Heap} {j k : Nat} {f : Addr} {sp : Sp} (F : Th P w K mg base j f sp) (h : j ≤ k) : Th P w K mg base k f sp := ⟨F.isF, fun A outer s H us vs Q E hr => F.run A outer s H us vs Q E (hr.mono h)⟩
/-- parameters ps, else captured names and globals -/
structure LamP (ps : List Str) (sc scope : Scope) : Prop where
  kind : scope.kind = .function
  co : scope.isCoroutine = false
  gen : scope.isGenerator = false
  nocell : ∀ y ∈ scope.names, y.2 ≠ .cell
  pars : ∀ x ∈ ps, scope.names.lookup x = some .local
  locs : ∀ y ∈ scope.names, y.2 = .local → y.1 ∈ ps
  free : ∀ y ∈ scope.names, y.2 = .free → sc.names.lookup y.1 = some .cell ∨ sc.names.lookup y.1 = some .free
def lamPB (ps : List Str) (sc scope : Scope) : Bool :=
  decide (scope.kind = .function) && !scope.isCoroutine && !scope.isGenerator && ps.all (fun x => decide (scope.names.lookup x = some .local)) &&
    scope.names.all fun y => !decide (y.2 = .cell) && (!decide (y.2 = .local) || decide (y.1 ∈ ps)) && (!decide (y.2 = .free) || decide (sc.names.lookup y.1 = some .cell) || decide (sc.names.lookup y.1 = some .free))
theorem lamP_by {ps : List Str} {sc scope : Scope} (h : lamPB ps sc scope = true) : LamP ps sc scope := by
  unfold lamPB at h
  simp only [Bool.and_eq_true, Bool.or_eq_true, Bool.not_eq_true', decide_eq_true_eq, decide_eq_false_iff_not, List.all_eq_true] at h
  obtain ⟨⟨⟨⟨h1, h2⟩, h3⟩, h4⟩, h5⟩ := h
  refine ⟨h1, h2, h3, fun y hy => (h5 y hy).1.1, h4, fun y hy e => ?_, fun y hy e => ?_⟩
  · rcases (h5 y hy).1.2 with z | z
    · exact absurd e z
    · exact z
  · rcases (h5 y hy).2 with (z | z) | z
    · exact absurd e z
    · exact .inl z
    · exact .inr z
/-- the context of a lambda's body over the names N -/
abbrev lamCN (X : Cx) (N : List Str) (A : Around) (outer : List Env) (s : Shared) (H : Hp) (E : XK) (scope : Scope) (f c : Addr) : Cx := { LamX.lamCx X A outer s H E scope f c with N := N }
/-- the cells of X, known by their objects; what the slots σ tell of them -/
structure Lent (X : Cx) (σ : L2.St) (L : Addr → Option Obj) : Prop where
  inj : ∀ x y c, X.env.cells.lookup x = some c → X.env.cells.lookup y = some c → x = y
  has : ∀ x, (X.env.kindOf x = some .cell ∨ X.env.kindOf x = some .free) → ∃ c, X.env.cells.lookup x = some c
  all : ∀ x c, X.env.cells.lookup x = some c → ∃ o v, L c = some o ∧ o.data = .cell v
  val : ∀ (i : Nat) x v c, X.N[i]? = some x → σ[i]? = some (some v) → X.env.cells.lookup x = some c → X.env.scope.names.lookup x ≠ some .local → Vis X.env.scope x → ∃ o u, L c = some o ∧ o.data = .cell (some u) ∧ RelV v u
/-- σ' of the names N' takes the captured names' values from σ of N -/
def Takes2 (N N' : List Str) (σ : L2.St) (n : Nat) (τ : L2.St) : Prop := ∀ (i : Nat) (x : Str) (v : V), N'[n + i]? = some x → τ[i]? = some (some v) → ∃ j : Nat, N[j]? = some x ∧ σ[j]? = some (some v)
theorem zip_rev {ps : List Str} {us : List Value} (nd : ps.Nodup) {i : Nat} {x : Str} {u : Value} (h1 : ps[i]? = some x) (h2 : us[i]? = some u) : (ps.zip us).reverse.lookup x = some u := by
  induction ps generalizing us i with
  | nil => simp at h1
  | cons p ps ih =>
    cases us with
    | nil => simp at h2
    | cons a us =>
      have nd' := List.nodup_cons.mp nd
      rw [List.zip_cons_cons, List.reverse_cons, List.lookup_append]
      cases i with
      | zero =>
        simp at h1 h2
        subst h1
        subst h2
        have none_ : (ps.zip us).reverse.lookup p = none := by
          rw [List.lookup_eq_none_iff]
          intro q hq
          have hq' : q ∈ ps.zip us := by simpa using hq
          have hm : q.1 ∈ ps := (List.of_mem_zip (a := q.1) (b := q.2) hq').1
          simp only [bne_iff_ne, ne_eq, Bool.not_eq_true', beq_eq_false_iff_ne]
          intro z
          rw [z] at nd'
          exact nd'.1 hm
        rw [none_]
        simp
      | succ i =>
        rw [ih nd'.2 (i := i) (by simpa using h1) (by simpa using h2)]
        rfl
section
variable {X : Cx} {σ : L2.St} {H HZ : Hp} {s : Shared} {L : Addr → Option Obj} {ps N' : List Str} {τ : L2.St}
theorem th_start {A : Around} {outer : List Env} {E : XK} {scope : Scope} {f c : Addr} {h₁ : Heap} {tk : Nat} {us : List Value} {vs : List V} (Lt : Lent X σ L) (Ls : LamP ps X.env.scope scope) (ndN : N'.Nodup) (pre : N'.take ps.length = ps) (tx : Takes2 X.N N' σ ps.length τ)
    (e0 : Env0 X.prog X.w X.K X.mg X.base A outer s HZ) (hl : Lies L HZ) (hd : A.handled = none) (hv : vs.length = ps.length) (r : Vals vs us) (hlen : ps.length + τ.length = N'.length)
    (hns : h₁.Ns s.heap.objs.size fun y => (ps.zip us).reverse.lookup y) (kp : ∀ b o, s.heap.get? b = some o → h₁.get? b = some o) :
    Inv (lamCN X N' A outer s (unl L HZ) E scope f c) [] (vs.map some ++ τ) (unl L HZ) { s with heap := h₁, toks := tk } := by
  have hfree : ∀ y ∈ scope.names, y.2 = .free → ∃ c, X.env.cells.lookup y.1 = some c := fun y hy e => Lt.has _ (Ls.free y hy e)
  have cm : ∀ {y c}, (cloFrom X.env.cells scope.names []).lookup y = some c → X.env.cells.lookup y = some c := fun {y c} e => by
    rcases cloFrom_mem (PySem.mem_of_lookup e) with hm | ⟨h1, h2⟩
    · cases hm
    · obtain ⟨c1, hc⟩ := hfree _ h1 rfl
      have e2 : c = c1 := by
        rw [h2]
        show (X.env.cells.lookup y).getD 0 = c1
        rw [show X.env.cells.lookup y = some c1 from hc]
        rfl
      rw [e2]
      exact hc
  have get : ∀ {a o}, L a = some o → s.heap.get? a = some o := fun {a o} e => lies_get e0.hok hl e
  have fr : ∀ b, HZ b = none → unl L HZ b = none := fun b n => by
    rw [unl_none (hl.none n)]
    exact n
  have cellAt : ∀ {y c}, X.env.cells.lookup y = some c → ∃ o v, L c = some o ∧ h₁.IsCell c v ∧ o.data = .cell v := fun {y c} e => by
    obtain ⟨o, v, h1, h2⟩ := Lt.all y c e
    exact ⟨o, v, h1, ⟨o, kp _ _ (get h1), h2⟩, h2⟩
  have noA : ∀ b : Addr, b ∉ (lamCN X N' A outer s (unl L HZ) E scope f c).ex := fun b z => absurd (show b ∈ ([] : List Addr) from z) (by simp)
  have ndp : ps.Nodup := by
    rw [← pre]
    exact ndN.sublist (List.take_sublist _ _)
  have hus : us.length = vs.length := (Paired.length r).symm
  refine ⟨⟨e0.mod, Ls.kind, rfl, rfl, Nat.le_refl _, fun y z c e1 e2 => Lt.inj y z c (cm e1) (cm e2), fun y hy => ?_, fun y c z _ => ?_, fun _ => hd, Around.frames_deeper e0.frames, .inr ⟨rfl, rfl⟩, fun b z => absurd z (noA b), fun b o e => ⟨(e0.bs b o e).1, fr b (e0.bs b o e).2⟩, e0.bsz,
      fun b _ _ => noA b, fun b z => absurd z (noA b), e0.funs, fun b hb => fr b (e0.frf b hb)⟩,
    rfl, e0.bare, Un.kept kp, ⟨_, hns, fun i y v e1 e2 e3 => ?_⟩, fun y c e => ?_, fr _ (e0.hok.fresh (Nat.le_refl _)), fun y c e => ?_, fun q hq => absurd (show q ∈ ([] : List (Addr × Obj)) ++ [] from hq) (by simp), (unl_ok e0.hok hl).kept kp, ?_⟩
  · have hy : scope.names.lookup y = some .cell ∨ scope.names.lookup y = some .free := hy
    rcases hy with hy | hy
    · exact absurd rfl (Ls.nocell _ (PySem.mem_of_lookup hy))
    · exact mem_lookup (cloFrom_has (cells := X.env.cells) (acc := []) (PySem.mem_of_lookup hy))
  · have z : false = true := z
    cases z
  · have e3 : Vis scope y := e3
    have e1 : N'[i]? = some y := e1
    rcases e3 with k | k | k
    · -- a parameter
      have hp : y ∈ ps := Ls.locs _ (PySem.mem_of_lookup k) rfl
      obtain ⟨j, hj⟩ := List.mem_iff_getElem?.mp hp
      have hjl : j < ps.length := (List.getElem?_eq_some_iff.mp hj).1
      have hN : N'[j]? = some y := by
        have z := hj
        rw [← pre, List.getElem?_take_of_lt hjl] at z
        exact z
      have eij : i = j := nodup_ix ndN e1 hN
      subst eij
      have hvl : i < vs.length := by omega
      rw [List.getElem?_append_left (by simpa using hvl), List.getElem?_map] at e2
      obtain ⟨v', hv'⟩ : ∃ v', vs[i]? = some v' := ⟨vs[i], List.getElem?_eq_getElem hvl⟩
      rw [hv'] at e2
      have e2' : v' = v := Option.some.inj (Option.some.inj e2)
      subst e2'
      obtain ⟨u, hu, ru⟩ := r.get hv'
      exact ⟨u, ru, .inl ⟨k, zip_rev ndp hj hu⟩⟩
    · exact absurd rfl (Ls.nocell _ (PySem.mem_of_lookup k))
    · -- a captured name
      have hi : ps.length ≤ i := by
        refine Nat.le_of_not_lt fun hi => ?_
        have hp : y ∈ ps := by
          have z : ps[i]? = some y := by
            rw [← pre, List.getElem?_take_of_lt hi]
            exact e1
          exact List.mem_of_getElem? z
        rw [Ls.pars y hp] at k
        cases k
      rw [List.getElem?_append_right (by simpa [hv] using hi), List.length_map, hv] at e2
      obtain ⟨j, hj, hσ⟩ := tx (i - ps.length) y v (by rw [Nat.add_sub_cancel' hi]; exact e1) e2
      have hk := Ls.free _ (PySem.mem_of_lookup k) rfl
      obtain ⟨c1, hc1⟩ := Lt.has y hk
      obtain ⟨o, u, h1, h2, h3⟩ := Lt.val j y v c1 hj hσ hc1 (by
        rcases hk with z | z <;> rw [show X.env.scope.names.lookup y = _ from z] <;> intro q <;> cases q) (.inr hk)
      obtain ⟨c2, hc2⟩ := mem_lookup (cloFrom_has (cells := X.env.cells) (acc := []) (PySem.mem_of_lookup k))
      have ec : c2 = c1 := Option.some.inj ((cm hc2).symm.trans hc1)
      subst ec
      exact ⟨u, h3, .inr ⟨.inr k, c2, hc2, o, kp _ _ (get h1), h2⟩⟩
  · obtain ⟨o, v, _, h2, _⟩ := cellAt (cm e)
    exact ⟨v, h2⟩
  · obtain ⟨o, v, h1, _, _⟩ := cellAt (cm e)
    exact unl_some h1
  · show (vs.map some ++ τ).length = N'.length
    rw [List.length_append, List.length_map, hv]
    exact hlen
/-- a lambda keeps what its body keeps, the lent cells taken back while it runs -/
theorem th_lam {params : Arguments} {body : Expr} {scope : Scope} {f c : Addr} {k : Nat} {tb : XK → TE} (Lt : Lent X σ L) (Ls : LamP ps X.env.scope scope) (ndN : N'.Nodup) (pre : N'.take ps.length = ps) (tx : Takes2 X.N N' σ ps.length τ) (hlen : ps.length + τ.length = N'.length)
    (hbind : ∀ (q : Str) (cl : List (Str × Addr)) (pm cv ctv : Value) (us : List Value), us.length = ps.length → bindArgs (PySem.W.kla_fn "<lambda>" q params body scope cl pm cv ctv) ⟨us, []⟩ = pure (ps.zip us))
    (hbody : ∀ (A : Around) (outer : List Env) (s : Shared) (H : Hp) (E : XK), Room k (A.deeper (LamX.lamEnv X scope s.heap.objs.size f c)) → PE (lamCN X N' A outer s H E scope f c) body (tb E)) :
    Th X.prog X.w X.K X.mg X.base (k + 1) f (fun vs H Q E => vs.length = ps.length ∧ H f = some (LamO f (X.env.qual ++ "<lambda>") params body scope (cloFrom X.env.cells scope.names []) c) ∧ H c = some (LamX.CodeO c (X.env.qual ++ "<lambda>")) ∧ Lies L H ∧
      tb (fun cls d H' => (∀ a o, L a = some o → H' a = none) → E cls d (lend L H')) (vs.map some ++ τ) (unl L H) (fun v H' => (∀ a o, L a = some o → H' a = none) → Q v (lend L H'))) := by
  refine ⟨fun vs H Q E h z hok => ?_, fun A outer s H us vs Q E hr e0 r z => ?_⟩
  · obtain ⟨pm, ctv, q⟩ := lamO_at hok z.2.1
    exact ⟨_, _, _, _, q⟩
  obtain ⟨hv, hf, hc, hl, ht⟩ := z
  obtain ⟨pm, ctv, of_⟩ := lamO_at e0.hok hf
  have rc := codeO_at e0.hok hc
  obtain ⟨oc, vs', t, hoc, hdc, hvc⟩ := rc
  have hus : us.length = ps.length := (Paired.length r).symm.trans hv
  have lim : s.heap.NoLimit := e0.mod.nolimit.keeps fun b o e => (e0.bs b o e).1
  refine PySem.W.kla_callFunE hr.depth of_ rfl Ls.co Ls.gen rfl ⟨c, oc, vs', t, rfl, hoc, hdc, hvc⟩ ?_
  rw [hbind _ _ _ _ _ us hus]
  refine wpAny_pure (wpAny_newFunctionEnv Ls.nocell (fun y hy => Ls.pars _ (List.of_mem_zip hy).1) (fun h₁ hns hsb => ⟨lim.fresh _ hsb, ?_⟩) Ls.kind)
  show codeAny _ _ (.expr body (LamX.lamEnv X scope s.heap.objs.size f c)) _ _
  have kp : ∀ b o, s.heap.get? b = some o → h₁.get? b = some o := fun b o e => hsb.extBut b o (Nat.ne_of_lt (Heap.lt_size e)) (Heap.get?_push_of_some _ e)
  have J := th_start (A := A) (outer := outer) (E := fun cls d H' => (∀ a o, L a = some o → H' a = none) → E cls d (lend L H')) (f := f) (c := c) (tk := s.toks + (ps.zip us).length) Lt Ls ndN pre tx e0 hl hr.hd hv r hlen hns kp
  have frl : ∀ b o, L b = some o → b ∉ frs outer := fun b o e hb => by
    have n := e0.frf b hb
    rw [hl b o e] at n
    cases n
  have get : ∀ {a o}, L a = some o → s.heap.get? a = some o := fun {a o} e => lies_get e0.hok hl e
  have un_ : ∀ b, H b = none → unl L H b = none := fun b n => by
    rw [unl_none (hl.none n)]
    exact n
  have away : ∀ {b u}, H b = some u → (∀ o v, u ≠ .frz o v) → unl L H b = some u := fun {b u} e n => by
    rw [unl_none (hl.away e n)]
    exact e
  have conv : ∀ e s'', L2.CX X.prog X.w outer (unl L H) s (fun cls d H' => (∀ a o, L a = some o → H' a = none) → E cls d (lend L H')) e s'' → L2.CX X.prog X.w outer H s E e s'' := fun e s'' z => by
    obtain ⟨a, B, H', cls, d, ea, fl, hok, ub, na, os, ag, hE⟩ := z
    have hB : ∀ b o, L b = some o → B.get? b = some o := fun b o q => ub.keep b o (get q) (unl_some q) (frl b o q)
    have hN : ∀ b o, L b = some o → H' b = none := fun b o q => ub.free b o (get q) (unl_some q)
    have keepn : ∀ b u, H' b = some u → lend L H' b = some u := fun b u q => by
      cases q2 : L b with
      | none => rw [lend_none q2]; exact q
      | some o => rw [hN b o q2] at q; cases q
    refine ⟨a, B, lend L H', cls, d, ea, fl, lend_ok hok hN hB, ⟨fun b o q n hb => ub.keep b o q (un_ b n) hb, fun b o q hb => ub.slot b o q hb, fun b o q n => ?_, fun b o q hb => ub.there b o q hb, fun b xs q => ?_, fun b o u q => ?_, fun b qs q => ?_⟩, ?_, os, ag, hE hN⟩
    · rw [lend_none (hl.none n)]
      exact ub.free b o q (un_ b n)
    · exact keepn _ _ (ub.tups b xs (away q fun _ _ y => by cases y))
    · cases q2 : L b with
      | none =>
        rw [lend_none q2]
        exact ub.frzs b o u (by rw [unl_none q2]; exact q)
      | some o' =>
        rw [lend_some q2, ← q]
        exact (hl b o' q2).symm
    · obtain ⟨m, z⟩ := ub.tbls b qs (away q fun _ _ y => by cases y)
      exact ⟨m, keepn _ _ z⟩
    · cases q : L a with
      | none => rw [lend_none q]; exact na
      | some o =>
        have z := hB a o q
        rw [fl.2.1] at z
        cases z
  refine PySem.W.kla_codeExpr (wpAny_mono ((hbody A outer s (unl L H) (fun cls d H' => (∀ a o, L a = some o → H' a = none) → E cls d (lend L H')) (hr.deeper _)).run [] _ _ _ _ J ht) (fun v s' hq => ?_) fun e s' hq => ?_)
  · obtain ⟨w', H', J', rv, q⟩ := hq
    have hb := J'.base
    have hB : ∀ b o, L b = some o → s'.heap.get? b = some o := fun b o q => hb.keep b o (get q) (unl_some q) (frl b o q) (fun z => nomatch (show b ∈ ([] : List Addr) from z))
    have hN : ∀ b o, L b = some o → H' b = none := fun b o q => hb.free b o (get q) (unl_some q) (fun z => nomatch (show b ∈ ([] : List Addr) from z))
    have keepn : ∀ b u, H' b = some u → lend L H' b = some u := fun b u q => by
      cases q2 : L b with
      | none => rw [lend_none q2]; exact q
      | some o => rw [hN b o q2] at q; cases q
    refine ⟨w', lend L H', J'.os, J'.bare, ⟨fun b o q n hb1 hx => hb.keep b o q (un_ b n) hb1 hx, fun b o q n hb1 hx => hb.slot b o q (un_ b n) hb1 hx, fun b o q n hx => ?_, fun b o q hx => hb.there b o q hx, fun b xs q => ?_, fun b o u q => ?_, fun b qs q => ?_⟩, lend_ok J'.hok hN hB, rv, q hN⟩
    · rw [lend_none (hl.none n)]
      exact hb.free b o q (un_ b n) hx
    · exact keepn _ _ (hb.tups b xs (away q fun _ _ y => by cases y))
    · cases q2 : L b with
      | none =>
        rw [lend_none q2]
        exact hb.frzs b o u (by rw [show (lamCN X N' A outer s (unl L H) _ scope f c).H_0 b = unl L H b from rfl, unl_none q2]; exact q)
      | some o' =>
        rw [lend_some q2, ← q]
        exact (hl b o' q2).symm
    · obtain ⟨m, z⟩ := hb.tbls b qs (away q fun _ _ y => by cases y)
      exact ⟨m, keepn _ _ z⟩
  · exact wpAny_mono hq (fun _ s'' z => conv _ s'' z) fun e' s'' z => conv _ s'' z
end

/-! ### calling with the cells lent -/
section
variable {X : Cx} {pins : List (Addr × Obj)} {σ : L2.St} {H : Hp} {s : Shared}
open Classical in
/-- the cells of a def's frame as they stand -/
theorem lent_of (hfn : ∀ x, X.fn x = true) (I : Inv X pins σ H s) : ∃ L : Addr → Option Obj, Lent X σ L ∧ (∀ a o, L a = some o → H a = none ∧ s.heap.get? a = some o ∧ a ∉ frs X.stack ∧ X.base.get? a = none) := by
  refine ⟨fun a => if ∃ x, X.env.cells.lookup x = some a then s.heap.get? a else none, ⟨I.ok.inj, I.ok.has, fun x c e => ?_, fun i x v c h1 h2 h3 h4 h5 => ?_⟩, fun a o e => ?_⟩
  · obtain ⟨v, o, ho, hd⟩ := I.cell x c e
    exact ⟨o, v, by rw [if_pos ⟨x, e⟩]; exact ho, hd⟩
  · obtain ⟨m, _, hl⟩ := I.loc
    obtain ⟨u, r, q⟩ := hl i x v h1 h2 h5
    rcases q with ⟨k, _⟩ | ⟨_, c', e', o, ho, hd⟩
    · exact absurd k h4
    · have ec : c' = c := Option.some.inj (e'.symm.trans h3)
      subst ec
      exact ⟨o, u, by rw [if_pos ⟨x, h3⟩]; exact ho, hd, r⟩
  · have e : (if ∃ x, X.env.cells.lookup x = some a then s.heap.get? a else none) = some o := e
    by_cases hx : ∃ x, X.env.cells.lookup x = some a
    · have e' : s.heap.get? a = some o := by rw [if_pos hx] at e; exact e
      obtain ⟨x, hx⟩ := hx
      have hab := I.ok.cab x a (hfn x) hx
      refine ⟨I.freeC x a hx, e', fun hb => ?_, ?_⟩
      · rcases List.mem_cons.mp (I.stkSub a hb) with z | z
        · exact I.cne x a hx z
        · obtain ⟨_, o', ho', _⟩ := I.ok.funs.mem z
          exact absurd (Nat.lt_of_lt_of_le (Heap.lt_size ho') hab) (Nat.lt_irrefl _)
      · cases q : X.base.get? a with
        | none => rfl
        | some o' =>
          have h1 := Heap.lt_size q
          have h2 := I.ok.bsz
          exact absurd (Nat.lt_of_lt_of_le h1 (Nat.le_trans h2 hab)) (Nat.lt_irrefl _)
    · rw [if_neg hx] at e
      cases e
/-- the state at a call, the cells lent -/
theorem env0_lend {L : Addr → Option Obj} (I : Inv X pins σ H s) (hL : ∀ a o, L a = some o → H a = none ∧ s.heap.get? a = some o ∧ a ∉ frs X.stack ∧ X.base.get? a = none) : Env0 X.prog X.w X.K X.mg X.base X.A X.stack s (lend L H) := by
  have e := I.env0
  have no : ∀ {a}, (∀ o, L a = some o → False) → L a = none := fun {a} h => by
    cases q : L a with
    | none => rfl
    | some o => exact (h o q).elim
  refine ⟨e.frames, e.mod, fun b o q => ⟨(e.bs b o q).1, ?_⟩, e.bsz, e.funs, fun b hb => ?_, lend_ok e.hok (fun a o q => (hL a o q).1) (fun a o q => (hL a o q).2.1), e.bare⟩
  · rw [lend_none (no fun o' z => by rw [(hL b o' z).2.2.2] at q; cases q)]
    exact (e.bs b o q).2
  · rw [lend_none (no fun o' z => (hL b o' z).2.2.1 hb)]
    exact e.frf b hb
/-- behind the call, the cells taken back -/
theorem after_lend {L : Addr → Option Obj} {Q : VK} {u : Value} {s' : Shared} (I : Inv X pins σ H s) (hL : ∀ a o, L a = some o → H a = none ∧ s.heap.get? a = some o ∧ a ∉ frs X.stack ∧ X.base.get? a = none)
    (h : CE X.stack X.prog X.w (lend L H) s (fun v H' => Q v (unl L H')) u s') : EP X pins σ Q u s' := by
  obtain ⟨v, H', os, bare, un, hok, r, q⟩ := h
  have hl : Lies L H' := fun a o e => un.frzs a o (.own 0) (lend_some e)
  have no : ∀ b, b ∈ frs X.stack → L b = none := fun b hb => by
    cases z : L b with
    | none => rfl
    | some o => exact absurd hb (hL b o z).2.2.1
  have tr : ∀ b u, H b = some u → L b = none := fun b u e => by
    cases z : L b with
    | none => rfl
    | some o => rw [(hL b o z).1] at e; cases e
  refine I.after ⟨v, unl L H', os, bare, ⟨fun b o e n hb hx => ?_, fun b o e n hb hx => ?_, fun b o e n hx => ?_, fun b o e hx => un.there b o e hx, fun b xs e => ?_, fun b o u e => ?_, fun b ps e => ?_⟩, unl_ok hok hl, r, q⟩
  · cases z : L b with
    | none => exact un.keep b o e (by rw [lend_none z]; exact n) hb hx
    | some o' =>
      have e2 : o' = o := Option.some.inj ((hL b o' z).2.1.symm.trans e)
      subst e2
      exact lies_get hok hl z
  · exact un.slot b o e (by rw [lend_none (no b hb)]; exact n) hb hx
  · cases z : L b with
    | none =>
      rw [unl_none z]
      exact un.free b o e (by rw [lend_none z]; exact n) hx
    | some o' => exact unl_some z
  · rw [unl_none (tr b _ e)]
    exact un.tups b xs (by rw [lend_none (tr b _ e)]; exact e)
  · rw [unl_none (tr b _ e)]
    exact un.frzs b o u (by rw [lend_none (tr b _ e)]; exact e)
  · obtain ⟨m, z⟩ := un.tbls b ps (by rw [lend_none (tr b _ e)]; exact e)
    exact ⟨m, by rw [unl_none (tr b _ e)]; exact z⟩
end
/-- what a callee is handed: the cells lent -/
def tLend (X : Cx) (sp : Sp) (t : TA) : TE := fun σ H Q => t σ H fun vs H1 => ∀ L, Lent X σ L → (∀ a o, L a = some o → H1 a = none) → sp vs (lend L H1) (fun v H' => Q v (unl L H')) E0
section
variable {X : Cx} {k : Nat} {x : Str} {ps : List Str} {sp : Sp} {e : Expr} {es : List Expr} {t : TA} {p pos : Pos}
theorem pe_lendG (D : DfG X.prog X.w X.K X.mg X.base k x ps sp) (hr : Room k X.A) (hz : X.A.guards = some []) (hfn : ∀ x, X.fn x = true) (hg : Gl X x) (ha : PA X (e :: es) t) (hdb : (x == ("__debug__" : Str)) = false := by decide)
    (he : starEach (e :: es) X.env = (false, eval e X.env) :: starEach es X.env := by rfl) (hpl : (backTo pos (starEach es X.env)).any (·.1) = false := by rfl) : PE X (.Call (.Name x p) (e :: es) [] pos) (tLend X sp t) := by
  obtain ⟨f, fd, F, hm, hk, hb⟩ := D.ex
  refine ⟨fun pins s σ H Q I h => ?_⟩
  refine wpAny_Call_Name_kw (ld_glob I hg hm ?_ hdb)
  refine PySem.W.callWith_K (h₀ := X.base) I.ok.mod.kin hk (thn (ha.run pos pins s σ H _ I h) fun us s1 ⟨vs, H1, I1, r, q⟩ => ⟨I1.kIn, ?_⟩) he hpl
  obtain ⟨L, Lt, hL⟩ := lent_of hfn I1
  have q1 := q L Lt fun a o z => (hL a o z).1
  have hl : us.length = ps.length := by rw [← r.length]; exact F.len _ _ _ _ q1
  have hbind := hb s1 us I1.kIn (by rw [List.append_nil]; exact hl)
  rw [List.append_nil] at hbind
  show wpAny _ _ (call (.ref f) us) _ _ _
  refine wpAny_call (codeAny_mono (F.run X.A X.stack s1 (lend L H1) ⟨us, []⟩ us vs _ E0 hr hz (env0_lend I1 hL) hbind r q1) fun r' s' hq => ?_)
  cases r' with
  | error e =>
    obtain ⟨_, _, _, _, _, _, _, _, _, _, _, _, z⟩ := hq
    exact z.elim
  | ok fl =>
    cases fl with
    | ret u => exact after_lend I1 hL hq
    | next => exact False.elim hq
    | brk => exact False.elim hq
    | cont => exact False.elim hq
theorem pe_lend (D : Df X.prog X.w X.K X.mg X.base k x ps sp) (hr : Room k X.A) (hfn : ∀ x, X.fn x = true) (hg : Gl X x) (ha : PA X (e :: es) t) (hdb : (x == ("__debug__" : Str)) = false := by decide)
    (he : starEach (e :: es) X.env = (false, eval e X.env) :: starEach es X.env := by rfl) (hpl : (backTo pos (starEach es X.env)).any (·.1) = false := by rfl) : PE X (.Call (.Name x p) (e :: es) [] pos) (tLend X sp t) := by
  obtain ⟨f, fd, F, hm, hk, hb⟩ := D.ex
  refine ⟨fun pins s σ H Q I h => ?_⟩
  refine wpAny_Call_Name_kw (ld_glob I hg hm ?_ hdb)
  refine PySem.W.callWith_K (h₀ := X.base) I.ok.mod.kin hk (thn (ha.run pos pins s σ H _ I h) fun us s1 ⟨vs, H1, I1, r, q⟩ => ⟨I1.kIn, ?_⟩) he hpl
  obtain ⟨L, Lt, hL⟩ := lent_of hfn I1
  have q1 := q L Lt fun a o z => (hL a o z).1
  have hl : us.length = ps.length := by rw [← r.length]; exact F.len _ _ _ _ q1
  have hbind := hb s1 us I1.kIn (by rw [List.append_nil]; exact hl)
  rw [List.append_nil] at hbind
  show wpAny _ _ (call (.ref f) us) _ _ _
  refine wpAny_call (codeAny_mono (F.run X.A X.stack s1 (lend L H1) ⟨us, []⟩ us vs _ E0 hr (env0_lend I1 hL) hbind r q1) fun r' s' hq => ?_)
  cases r' with
  | error e =>
    obtain ⟨_, _, _, _, _, _, _, _, _, _, _, _, z⟩ := hq
    exact z.elim
  | ok fl =>
    cases fl with
    | ret u => exact after_lend I1 hL hq
    | next => exact False.elim hq
    | brk => exact False.elim hq
    | cont => exact False.elim hq
/-- a(), a(e), a a name of the frame that holds such a lambda: wished Q0, E0, which are no less than what follows -/
def tTh (i : Nat) (f : Addr) (sp : Sp) (W : WX) (t : TA) : TE := fun σ H Q => σ[i]? = some (some (.ref f)) ∧ t σ H fun vs H1 => ∃ (Q' : VK) (E' : XK), sp vs H1 Q' E' ∧ (∀ v H', Q' v H' → Q v H') ∧ ∀ cls d H', E' cls d H' → W cls d σ H'
theorem pe_th0 {i : Nat} {f : Addr} {W : WX} (D : Th X.prog X.w X.K X.mg X.base k f sp) (hr : Room k X.A) (tk : Takes X W) (hN : X.N[i]? = some x) (hv : Vis X.env.scope x) (hd : (x == ("__debug__" : Str)) = false := by decide)
    (hcd : (x == ("__classdict__" : Str)) = false := by decide) : PE X (.Call (.Name x p) [] [] pos) (tTh i f sp W tNil) := by
  refine ⟨fun pins s σ H Q I h => ?_⟩
  obtain ⟨hs, Q', E', q, hQ, hE⟩ := h
  refine wpAny_Call_Name_kw (thn ((pe_var (pos := p) (i := i) hN hv hd hcd).run pins s σ H (fun v H1 => v = .ref f ∧ H1 = H) I ⟨.ref f, hs, rfl, rfl⟩) fun u s1 z => ?_)
  obtain ⟨v, H1, I1, r1, ev, eH⟩ := z
  subst ev eH
  obtain rfl : u = Value.ref f := r1
  refine PySem.W.callWith_F0 (D.isF _ _ _ _ _ q I1.hok) ?_
  refine wpAny_call (codeAny_mono (D.run X.A X.stack s1 H1 [] [] Q' E' hr I1.env0 .nil q) fun r' s' hq => ?_)
  cases r' with
  | error e => exact tk _ _ (XE.of_call I1 hE hq)
  | ok fl =>
    cases fl with
    | ret u =>
      obtain ⟨v, H', z1, z2, z3, z4, z5, z6⟩ := hq
      exact I1.after ⟨v, H', z1, z2, z3, z4, z5, hQ _ _ z6⟩
    | next => exact False.elim hq
    | brk => exact False.elim hq
    | cont => exact False.elim hq
def tTh1 (i : Nat) (f : Addr) (sp : Sp) (W : WX) (t : TA) : TE := fun σ H Q => (∃ q params body scope cl c, H f = some (LamO f q params body scope cl c)) ∧ tTh i f sp W t σ H Q
theorem pe_th1 {i : Nat} {f : Addr} {W : WX} (D : Th X.prog X.w X.K X.mg X.base k f sp) (hr : Room k X.A) (tk : Takes X W) (hN : X.N[i]? = some x) (hv : Vis X.env.scope x) (ha : PA X (e :: es) t) (hd : (x == ("__debug__" : Str)) = false := by decide)
    (hcd : (x == ("__classdict__" : Str)) = false := by decide) (he : starEach (e :: es) X.env = (false, eval e X.env) :: starEach es X.env := by rfl) (hpl : (backTo pos (starEach es X.env)).any (·.1) = false := by rfl) :
    PE X (.Call (.Name x p) (e :: es) [] pos) (tTh1 i f sp W t) := by
  refine ⟨fun pins s σ H Q I h => ?_⟩
  obtain ⟨⟨_, _, _, _, _, _, hf⟩, hs, q⟩ := h
  refine wpAny_Call_Name_kw (thn ((pe_var (pos := p) (i := i) hN hv hd hcd).run pins s σ H (fun v H1 => v = .ref f ∧ H1 = H) I ⟨.ref f, hs, rfl, rfl⟩) fun u s1 z => ?_)
  obtain ⟨v, H1, I1, r1, ev, eH⟩ := z
  subst ev eH
  obtain rfl : u = Value.ref f := r1
  obtain ⟨pm, ctv, hfo⟩ := lamO_at I1.hok hf
  refine PySem.W.callWith_F ⟨_, _, _, _, hfo⟩ (thn (ha.run pos pins s1 σ H1 _ I1 q) fun us s2 z => ?_) he hpl
  obtain ⟨vs, H2, I2, r, Q', E', q2, hQ, hE⟩ := z
  refine ⟨D.isF _ _ _ _ _ q2 I2.hok, ?_⟩
  show wpAny _ _ (call (.ref f) us) _ _ _
  refine wpAny_call (codeAny_mono (D.run X.A X.stack s2 H2 us vs Q' E' hr I2.env0 r q2) fun r' s' hq => ?_)
  cases r' with
  | error e => exact tk _ _ (XE.of_call I2 hE hq)
  | ok fl =>
    cases fl with
    | ret u =>
      obtain ⟨v, H', z1, z2, z3, z4, z5, z6⟩ := hq
      exact I2.after ⟨v, H', z1, z2, z3, z4, z5, hQ _ _ z6⟩
    | next => exact False.elim hq
    | brk => exact False.elim hq
    | cont => exact False.elim hq
end
end Rk
set_option maxHeartbeats 4000000
/-! Rules of our own, sixth part: rules whose reading tells of the heap only that what stood stands (Same). -/
namespace Rk
open PySem PySem.Spec PyProof.Rows L2

theorem same_upd {H : Hp} {p : Addr} {o : HO} (n : H p = none) : Same H (upd H p o) := fun b u e => by
  rw [upd_ne (ne_of_none e n)]
  exact e
theorem same_upd' {H H1 : Hp} {p : Addr} {o : HO} (s : Same H H1) (n : H p = none) : Same H (upd H1 p o) := fun b u e => by
  rw [upd_ne (ne_of_none e n)]
  exact s b u e
theorem Rd.same {H H' : Hp} {a : Addr} {u : HO} (r : Rd H a u) (e : Same H H') : Rd H' a u := by
  rcases r with r | ⟨o, r⟩
  · exact .inl (e _ _ r)
  · exact .inr ⟨o, e _ _ r⟩
theorem sqT_same {K : PySem.W.Frag} {H H' : Hp} {a : Addr} {xs : List V} (h : SqT K H a xs) (e : Same H H') : SqT K H' a xs := h.imp (fun r => Rd.same r e) id
theorem sqL_same {K : PySem.W.Frag} {H H' : Hp} {a : Addr} {xs : List V} (h : SqL K H a xs) (e : Same H H') : SqL K H' a xs := h.imp (fun r => Rd.same r e) id
theorem sqT_at {K : PySem.W.Frag} {H : Hp} {a : Addr} {xs : List V} (h : H a = some (.tup xs)) : SqT K H a xs := .inl (.inl h)
theorem sqL_at {K : PySem.W.Frag} {H : Hp} {a : Addr} {xs : List V} (h : H a = some (.lst xs)) : SqL K H a xs := .inl (.inl h)
theorem sqT_new {K : PySem.W.Frag} {H : Hp} {a : Addr} {xs : List V} : SqT K (upd H a (.tup xs)) a xs := sqT_at upd_same
theorem sqL_new {K : PySem.W.Frag} {H : Hp} {a : Addr} {xs : List V} : SqL K (upd H a (.lst xs)) a xs := sqL_at upd_same
mutual
theorem Dp.same {K : PySem.W.Frag} {H H' : Hp} (e : Same H H') : ∀ (d : PyData) (v : V), Dp K H v d → Dp K H' v d
  | .none, _, h => by
    cases h
    exact .non
  | .bool b, _, h => by
    cases h
    exact .bl b
  | .int i, _, h => by
    cases h
    exact .int i
  | .str x, _, h => by
    cases h
    exact .str x
  | .list ds, _, h => by
    cases h with
    | lst hs ha => exact .lst (sqL_same hs e) (DpAll.same e ds _ ha)
  | .tuple ds, _, h => by
    cases h with
    | tup hs ha => exact .tup (sqT_same hs e) (DpAll.same e ds _ ha)
  | .dict kvs, _, h => by cases h
theorem DpAll.same {K : PySem.W.Frag} {H H' : Hp} (e : Same H H') : ∀ (ds : List PyData) (vs : List V), DpAll K H vs ds → DpAll K H' vs ds
  | [], _, h => by
    cases h
    exact .nil
  | d :: ds, _, h => by
    cases h with
    | cons a b => exact .cons (Dp.same e d _ a) (DpAll.same e ds _ b)
end
theorem dp_same {K : PySem.W.Frag} {H H' : Hp} {v : V} {d : PyData} (h : Dp K H v d) (e : Same H H') : Dp K H' v d := Dp.same e d v h

/-! ### rows of truths -/
abbrev Row : Type := List Bool
def bls (r : Row) : List V := r.map V.bl
theorem bls_len (r : Row) : (bls r).length = r.length := List.length_map _
theorem bls_get (r : Row) (i : Nat) : (bls r)[i]? = (r[i]?).map V.bl := List.getElem?_map
theorem bls_flat (r : Row) : (bls r).all flatV = true := by
  induction r with
  | nil => rfl
  | cons b r ih => exact Bool.and_eq_true_iff.mpr ⟨rfl, ih⟩
def rowD (r : Row) : List PyData := r.map PyData.bool
theorem dpAll_row {K : PySem.W.Frag} {H : Hp} : ∀ r : Row, DpAll K H (bls r) (rowD r)
  | [] => .nil
  | b :: r => .cons (.bl b) (dpAll_row r)
theorem dp_row {K : PySem.W.Frag} {H : Hp} {a : Addr} {r : Row} (h : SqT K H a (bls r)) : Dp K H (.ref a) (.tuple (rowD r)) := .tup h (dpAll_row r)
theorem canLay_row : ∀ r : Row, PyData.canLayAll0 (rowD r) = true
  | [] => rfl
  | b :: r => by
    show (PyData.canLay0 (.bool b) && PyData.canLayAll0 (rowD r)) = true
    rw [canLay_row r]
    rfl
theorem depth_row : ∀ r : Row, PyData.depthAll (rowD r) = 0
  | [] => rfl
  | b :: r => by
    show max (PyData.depth (.bool b)) (PyData.depthAll (rowD r)) = 0
    rw [depth_row r]
    rfl
theorem shaped_row (r : Row) : SeqAt.shaped (.tuple (rowD r)) = true := by
  unfold SeqAt.shaped
  have h1 : PyData.canLay0 (.tuple (rowD r)) = true := by
    unfold PyData.canLay0
    exact canLay_row r
  have h2 : PyData.depth (.tuple (rowD r)) = 1 := by
    unfold PyData.depth
    rw [depth_row]
  rw [h1, h2]
  rfl
theorem eqv_row : ∀ r t : Row, PyData.eqvAll (rowD r) (rowD t) = decide (r = t)
  | [], [] => rfl
  | [], b :: t => rfl
  | b :: r, [] => rfl
  | a :: r, b :: t => by
    show (PyData.eqv (.bool a) (.bool b) && PyData.eqvAll (rowD r) (rowD t)) = _
    rw [eqv_row r t]
    unfold PyData.eqv
    cases a <;> cases b <;> simp
theorem eqv_rowT (r t : Row) : PyData.eqv (.tuple (rowD r)) (.tuple (rowD t)) = decide (r = t) := by
  unfold PyData.eqv
  exact eqv_row r t
section
variable {X : Cx}
theorem op_eqRow (hu : X.A.units + 64 < cLine) : OpR X (compareOp .Eq) (fun x y H Q => ∃ a b r t, x = .ref a ∧ y = .ref b ∧ SqT X.K H a (bls r) ∧ SqT X.K H b (bls t) ∧ Q (.bl (decide (r = t))) H) := by
  intro pins s σ H x y v u Q I rx ry h
  obtain ⟨a, b, r, t, rfl, rfl, h1, h2, q⟩ := h
  refine op_eqD hu pins s σ H _ _ v u Q I rx ry ⟨_, _, dp_row h1, dp_row h2, shaped_row r, shaped_row t, ?_⟩
  rw [eqv_rowT]
  exact q
theorem op_neRow (hu : X.A.units + 64 < cLine) : OpR X (compareOp .NotEq) (fun x y H Q => ∃ a b r t, x = .ref a ∧ y = .ref b ∧ SqT X.K H a (bls r) ∧ SqT X.K H b (bls t) ∧ Q (.bl (!decide (r = t))) H) := by
  intro pins s σ H x y v u Q I rx ry h
  obtain ⟨a, b, r, t, rfl, rfl, h1, h2, q⟩ := h
  refine op_neD hu pins s σ H _ _ v u Q I rx ry ⟨_, _, dp_row h1, dp_row h2, shaped_row r, shaped_row t, ?_⟩
  rw [eqv_rowT]
  exact q
/-- t[lo:hi] of a tuple: a tuple of the cut, the old one or a new one -/
def rSlQ (K : PySem.W.Frag) : V → Option Int → Option Int → Hp → VK → Prop := fun x lo hi H Q => ∃ a xs, x = .ref a ∧ SqT K H a xs ∧ ∀ p H', Same H H' → SqT K H' p (cutV xs lo hi) → Q (.ref p) H'
theorem cut_whole {xs : List V} {lo hi : Option Int} (h : HT.sIx xs.length 0 lo = 0 ∧ HT.sIx xs.length xs.length hi = xs.length) : cutV xs lo hi = xs := by
  unfold cutV
  rw [h.1, h.2, List.drop_zero, Nat.sub_zero, List.take_length]
theorem sl_tupQ : SlR X (rSlQ X.K) := by
  intro pins s σ H x v vl vu lo hi sl Q I rx hs pl pu h
  obtain ⟨a, xs, e, hx, q⟩ := h
  exact sl_tupA pins s σ H x v vl vu lo hi sl Q I rx hs pl pu ⟨a, xs, e, hx, fun w => q a H (Same.refl H) (by rw [cut_whole w]; exact hx), fun _ p np => q p _ (same_upd np) sqT_new⟩
/-- t + u of tuples -/
def rCatQ (K : PySem.W.Frag) : R2 := fun x y H Q => ∃ a b xs ys, x = .ref a ∧ y = .ref b ∧ SqT K H a xs ∧ SqT K H b ys ∧ xs.length + ys.length ≤ sizeLine ∧ ∀ p H', Same H H' → SqT K H' p (xs ++ ys) → Q (.ref p) H'
theorem op_catQ : OpR X (binaryOp .Add) (rCatQ X.K) := by
  intro pins s σ H x y v u Q I rx ry h
  obtain ⟨a, b, xs, ys, e1, e2, h1, h2, hz, q⟩ := h
  refine op_catA pins s σ H x y v u Q I rx ry ⟨a, b, xs, ys, e1, e2, h1, h2, hz, fun e => ?_, fun _ e => ?_, fun _ _ p np => q p _ (same_upd np) sqT_new⟩
  · subst e
    exact q b H (Same.refl H) h2
  · subst e
    exact q a H (Same.refl H) (by rw [List.append_nil]; exact h1)
/-- t * k of a tuple -/
def rMulQ (K : PySem.W.Frag) : R2 := fun x y H Q => ∃ l k xs, x = .ref l ∧ y = .int k ∧ SqT K H l xs ∧ xs ≠ [] ∧ xs.length ≤ 1000 ∧ -(2 ^ 40) < k ∧ (xs.length : Int) * k ≤ 16777216 ∧ k ≤ 16777216 ∧ ∀ p H', Same H H' → SqT K H' p (List.replicate k.toNat xs).flatten → Q (.ref p) H'
theorem op_mulQ : OpR X (binaryOp .Mult) (rMulQ X.K) := by
  intro pins s σ H x y v u Q I rx ry h
  obtain ⟨l, k, xs, e1, e2, h1, h2, h3, h4, h5, h6, q⟩ := h
  refine op_mulT pins s σ H x y v u Q I rx ry ⟨l, k, xs, e1, e2, h1, h2, h3, h4, h5, h6, fun e => ?_, fun _ p np => q p _ (same_upd np) sqT_new⟩
  subst e
  exact q l H (Same.refl H) (by rw [show (1 : Int).toNat = 1 from rfl, List.replicate_one, List.flatten_singleton]; exact h1)
/-- tuple(x) of a list or a tuple -/
def rTupQ (K : PySem.W.Frag) : List V → Hp → VK → Prop := fun vs H Q => ∃ p ys, vs = [.ref p] ∧ (SqL K H p ys ∨ SqT K H p ys) ∧ ∀ l H', Same H H' → SqT K H' l ys → Q (.ref l) H'
theorem call_tupQ : CallR X (.type "tuple") (rTupQ X.K) := by
  intro pins s σ H xs us Q I r h
  obtain ⟨p, ys, e, hq, q⟩ := h
  refine call_tuple_of pins s σ H xs us Q I r ⟨p, ys, e, ?_⟩
  rcases hq with hq | hq
  · exact .inl ⟨hq, fun l nl => q l _ (same_upd nl) sqT_new⟩
  · exact .inr ⟨hq, q p H (Same.refl H) hq⟩
/-- (a, b, ..) -/
def tTupQ (K : PySem.W.Frag) (t : TA) : TE := fun σ H Q => t σ H fun xs H1 => xs.length ≤ sizeLine ∧ ∀ p, H1 p = none → Q (.ref p) (upd H1 p (.tup xs))

/-! ### is True, is False of truths -/
theorem op_isB : OpR X (compareOp .Is) (fun x y H Q => ∃ a b, x = .bl a ∧ y = .bl b ∧ Q (.bl (decide (a = b))) H) := by
  intro pins s σ H x y v u Q I rx ry h
  obtain ⟨a, b, rfl, rfl, q⟩ := h
  cases rx
  cases ry
  refine wpAny_pure ⟨.bl (decide (a = b)), H, I, ?_, q⟩
  cases a <;> cases b <;> rfl
theorem op_isnotB : OpR X (compareOp .IsNot) (fun x y H Q => ∃ a b, x = .bl a ∧ y = .bl b ∧ Q (.bl (!decide (a = b))) H) := by
  intro pins s σ H x y v u Q I rx ry h
  obtain ⟨a, b, rfl, rfl, q⟩ := h
  cases rx
  cases ry
  refine wpAny_pure ⟨.bl (!decide (a = b)), H, I, ?_, q⟩
  cases a <;> cases b <;> rfl
end

/-! ### comprehensions -/
section
variable {te : TE} {tt : TT} {i : Nat} {σ : L2.St} {H1 : Hp} {Qd : Addr → Hp → Prop}
theorem wipe1 (σ : L2.St) (i : Nat) (v : V) : wipe ((wipe σ [i]).set i (some v)) [i] = wipe σ [i] := by
  show ((σ.set i none).set i (some v)).set i none = σ.set i none
  rw [List.set_set, List.set_set]
theorem set1 (σ : L2.St) (i : Nat) (v : V) : (wipe σ [i]).set i (some v) = σ.set i (some v) := by
  show (σ.set i none).set i (some v) = σ.set i (some v)
  rw [List.set_set]
theorem filt_snoc {α β : Type} (p : α → Bool) (f : α → β) (l : List α) (a : α) : ((l ++ [a]).filter p).map f = (l.filter p).map f ++ (if p a then [f a] else []) := by
  rw [List.filter_append, List.map_append]
  congr 1
  by_cases h : p a <;> simp [h]
/-- over a range, with a test -/
theorem lcRF {lo : Int} {n : Nat} (keep : Nat → Bool) (f : Nat → V) (hn : n ≤ sizeLine)
    (ht : ∀ (j : Nat) (H' : Hp) (Qb : Bool → Hp → Prop), j < n → Same H1 H' → (∀ H'', Same H' H'' → Qb (keep j) H'') → tt (σ.set i (some (.int (lo + j)))) H' Qb)
    (hs : ∀ (j : Nat) (H' : Hp) (Qy : VK), j < n → keep j = true → Same H1 H' → (∀ H'', Same H' H'' → Qy (f j) H'') → te (σ.set i (some (.int (lo + j)))) H' Qy)
    (hd : ∀ D H', H1 D = none → Same H1 H' → H' D = some (.lst (((List.range n).filter keep).map f)) → Qd D H') :
    ∀ D, H1 D = none → ∃ W : Nat → Nat → Hp → Prop, (∃ m, W 0 m (upd H1 D (.lst []))) ∧ ∀ k m H, W k m H →
      ((Itr lo n).stop k H ∧ Qd D H) ∨ ((Itr lo n).go k H ∧ ∃ Nx : Hp → Prop, (∀ H', Nx H' → ∃ m', m' < m ∧ W (k + 1) m' H') ∧ ∀ x H', (Itr lo n).yld k H x H' → gName i x (wipe σ [i]) H' fun σ2 H2 => wipe σ2 [i] = wipe σ [i] ∧ tt σ2 H2 fun b H3 =>
        if b = true then te σ2 H3 fun y H4 => ∃ acc, H4 D = some (.lst acc) ∧ acc.length < sizeLine ∧ Nx (upd H4 D (.lst (acc ++ [y]))) else Nx H3) := by
  intro D hD
  refine lc_range (σ := σ) (vs := [i]) (H1 := H1) (D := D) (Qd := fun H => Qd D H) (fun k H => Same H1 H ∧ H D = some (.lst (((List.range k).filter keep).map f))) ⟨same_upd hD, upd_same⟩ ?_ ?_
  · rintro k H hk ⟨s1, e1⟩
    refine ⟨wipe1 σ i _, ?_⟩
    rw [set1]
    refine ht k H _ hk s1 fun H'' s2 => ?_
    cases hb : keep k with
    | false =>
      rw [if_neg Bool.false_ne_true]
      refine ⟨s1.trans s2, ?_⟩
      rw [s2 _ _ e1, List.range_succ, filt_snoc, if_neg (by rw [hb]; exact Bool.false_ne_true), List.append_nil]
    | true =>
      rw [if_pos rfl]
      refine hs k H'' _ hk hb (s1.trans s2) fun H4 s3 => ⟨_, s3 _ _ (s2 _ _ e1), ?_, same_upd' ((s1.trans s2).trans s3) hD, ?_⟩
      · rw [List.length_map]
        refine Nat.lt_of_le_of_lt (List.length_filter_le _ _) ?_
        rw [List.length_range]
        omega
      · rw [upd_same, List.range_succ, filt_snoc, if_pos hb]
  · rintro H ⟨s1, e1⟩
    exact hd D H hD s1 e1
/-- over a range -/
theorem lcR {lo : Int} {n : Nat} (f : Nat → V) (hn : n ≤ sizeLine)
    (hs : ∀ (j : Nat) (H' : Hp) (Qy : VK), j < n → Same H1 H' → (∀ H'', Same H' H'' → Qy (f j) H'') → te (σ.set i (some (.int (lo + j)))) H' Qy)
    (hd : ∀ D H', H1 D = none → Same H1 H' → H' D = some (.lst ((List.range n).map f)) → Qd D H') :
    ∀ D, H1 D = none → ∃ W : Nat → Nat → Hp → Prop, (∃ m, W 0 m (upd H1 D (.lst []))) ∧ ∀ k m H, W k m H →
      ((Itr lo n).stop k H ∧ Qd D H) ∨ ((Itr lo n).go k H ∧ ∃ Nx : Hp → Prop, (∀ H', Nx H' → ∃ m', m' < m ∧ W (k + 1) m' H') ∧ ∀ x H', (Itr lo n).yld k H x H' → gName i x (wipe σ [i]) H' fun σ2 H2 => wipe σ2 [i] = wipe σ [i] ∧ tYes σ2 H2 fun b H3 =>
        if b = true then te σ2 H3 fun y H4 => ∃ acc, H4 D = some (.lst acc) ∧ acc.length < sizeLine ∧ Nx (upd H4 D (.lst (acc ++ [y]))) else Nx H3) :=
  lcRF (tt := tYes) (fun _ => true) f hn (fun j H' Qb _ _ q => q H' (Same.refl H')) (fun j H' Qy h _ => hs j H' Qy h) fun D H' h1 h2 h3 => hd D H' h1 h2 (by
    rw [List.filter_eq_self.mpr fun _ _ => rfl] at h3
    exact h3)
/-- over a tuple, with a test -/
theorem lcTF {K : PySem.W.Frag} {a : Addr} {xs : List V} (keep : V → Bool) (f : V → V) (hn : xs.length ≤ sizeLine) (ha : SqT K H1 a xs)
    (ht : ∀ (j : Nat) (x : V) (H' : Hp) (Qb : Bool → Hp → Prop), xs[j]? = some x → Same H1 H' → (∀ H'', Same H' H'' → Qb (keep x) H'') → tt (σ.set i (some x)) H' Qb)
    (hs : ∀ (j : Nat) (x : V) (H' : Hp) (Qy : VK), xs[j]? = some x → keep x = true → Same H1 H' → (∀ H'', Same H' H'' → Qy (f x) H'') → te (σ.set i (some x)) H' Qy)
    (hd : ∀ D H', H1 D = none → Same H1 H' → H' D = some (.lst ((xs.filter keep).map f)) → Qd D H') :
    ∀ D, H1 D = none → ∃ W : Nat → Nat → Hp → Prop, (∃ m, W 0 m (upd H1 D (.lst []))) ∧ ∀ k m H, W k m H →
      ((Itt K a).stop k H ∧ Qd D H) ∨ ((Itt K a).go k H ∧ ∃ Nx : Hp → Prop, (∀ H', Nx H' → ∃ m', m' < m ∧ W (k + 1) m' H') ∧ ∀ x H', (Itt K a).yld k H x H' → gName i x (wipe σ [i]) H' fun σ2 H2 => wipe σ2 [i] = wipe σ [i] ∧ tt σ2 H2 fun b H3 =>
        if b = true then te σ2 H3 fun y H4 => ∃ acc, H4 D = some (.lst acc) ∧ acc.length < sizeLine ∧ Nx (upd H4 D (.lst (acc ++ [y]))) else Nx H3) := by
  intro D hD
  refine lc_tup (K := K) (a := a) (xs := xs) (σ := σ) (vs := [i]) (H1 := H1) (D := D) (Qd := fun H => Qd D H) (fun k H => Same H1 H ∧ H D = some (.lst (((xs.take k).filter keep).map f))) ⟨same_upd hD, upd_same⟩ (fun k H _ p => sqT_same ha p.1) ?_ ?_
  · rintro k x H hk ⟨s1, e1⟩
    have hlt : k < xs.length := (List.getElem?_eq_some_iff.mp hk).1
    have et : xs.take (k + 1) = xs.take k ++ [x] := by rw [List.take_add_one, hk]; rfl
    refine ⟨wipe1 σ i _, ?_⟩
    rw [set1]
    refine ht k x H _ hk s1 fun H'' s2 => ?_
    cases hb : keep x with
    | false =>
      rw [if_neg Bool.false_ne_true]
      refine ⟨s1.trans s2, ?_⟩
      rw [s2 _ _ e1, et, filt_snoc, if_neg (by rw [hb]; exact Bool.false_ne_true), List.append_nil]
    | true =>
      rw [if_pos rfl]
      refine hs k x H'' _ hk hb (s1.trans s2) fun H4 s3 => ⟨_, s3 _ _ (s2 _ _ e1), ?_, same_upd' ((s1.trans s2).trans s3) hD, ?_⟩
      · rw [List.length_map]
        refine Nat.lt_of_le_of_lt (List.length_filter_le _ _) ?_
        rw [List.length_take]
        omega
      · rw [upd_same, et, filt_snoc, if_pos hb]
  · rintro H ⟨s1, e1⟩
    rw [List.take_length] at e1
    exact hd D H hD s1 e1
/-- over a tuple -/
theorem lcT {K : PySem.W.Frag} {a : Addr} {xs : List V} (f : V → V) (hn : xs.length ≤ sizeLine) (ha : SqT K H1 a xs)
    (hs : ∀ (j : Nat) (x : V) (H' : Hp) (Qy : VK), xs[j]? = some x → Same H1 H' → (∀ H'', Same H' H'' → Qy (f x) H'') → te (σ.set i (some x)) H' Qy)
    (hd : ∀ D H', H1 D = none → Same H1 H' → H' D = some (.lst (xs.map f)) → Qd D H') :
    ∀ D, H1 D = none → ∃ W : Nat → Nat → Hp → Prop, (∃ m, W 0 m (upd H1 D (.lst []))) ∧ ∀ k m H, W k m H →
      ((Itt K a).stop k H ∧ Qd D H) ∨ ((Itt K a).go k H ∧ ∃ Nx : Hp → Prop, (∀ H', Nx H' → ∃ m', m' < m ∧ W (k + 1) m' H') ∧ ∀ x H', (Itt K a).yld k H x H' → gName i x (wipe σ [i]) H' fun σ2 H2 => wipe σ2 [i] = wipe σ [i] ∧ tYes σ2 H2 fun b H3 =>
        if b = true then te σ2 H3 fun y H4 => ∃ acc, H4 D = some (.lst acc) ∧ acc.length < sizeLine ∧ Nx (upd H4 D (.lst (acc ++ [y]))) else Nx H3) :=
  lcTF (tt := tYes) (fun _ => true) f hn ha (fun j x H' Qb _ _ q => q H' (Same.refl H')) (fun j x H' Qy h _ => hs j x H' Qy h) fun D H' h1 h2 h3 => hd D H' h1 h2 (by
    rw [List.filter_eq_self.mpr fun _ _ => rfl] at h3
    exact h3)
/-- over a list, with a test -/
theorem lcLF {K : PySem.W.Frag} {a : Addr} {xs : List V} (keep : V → Bool) (f : V → V) (hn : xs.length ≤ sizeLine) (ha : SqL K H1 a xs)
    (ht : ∀ (j : Nat) (x : V) (H' : Hp) (Qb : Bool → Hp → Prop), xs[j]? = some x → Same H1 H' → (∀ H'', Same H' H'' → Qb (keep x) H'') → tt (σ.set i (some x)) H' Qb)
    (hs : ∀ (j : Nat) (x : V) (H' : Hp) (Qy : VK), xs[j]? = some x → keep x = true → Same H1 H' → (∀ H'', Same H' H'' → Qy (f x) H'') → te (σ.set i (some x)) H' Qy)
    (hd : ∀ D H', H1 D = none → Same H1 H' → H' D = some (.lst ((xs.filter keep).map f)) → Qd D H') :
    ∀ D, H1 D = none → ∃ W : Nat → Nat → Hp → Prop, (∃ m, W 0 m (upd H1 D (.lst []))) ∧ ∀ k m H, W k m H →
      ((Itl K a).stop k H ∧ Qd D H) ∨ ((Itl K a).go k H ∧ ∃ Nx : Hp → Prop, (∀ H', Nx H' → ∃ m', m' < m ∧ W (k + 1) m' H') ∧ ∀ x H', (Itl K a).yld k H x H' → gName i x (wipe σ [i]) H' fun σ2 H2 => wipe σ2 [i] = wipe σ [i] ∧ tt σ2 H2 fun b H3 =>
        if b = true then te σ2 H3 fun y H4 => ∃ acc, H4 D = some (.lst acc) ∧ acc.length < sizeLine ∧ Nx (upd H4 D (.lst (acc ++ [y]))) else Nx H3) := by
  intro D hD
  refine lc_list (K := K) (a := a) (xs := xs) (σ := σ) (vs := [i]) (H1 := H1) (D := D) (Qd := fun H => Qd D H) (fun k H => Same H1 H ∧ H D = some (.lst (((xs.take k).filter keep).map f))) ⟨same_upd hD, upd_same⟩ (fun k H _ p => sqL_same ha p.1) ?_ ?_
  · rintro k x H hk ⟨s1, e1⟩
    have hlt : k < xs.length := (List.getElem?_eq_some_iff.mp hk).1
    have et : xs.take (k + 1) = xs.take k ++ [x] := by rw [List.take_add_one, hk]; rfl
    refine ⟨wipe1 σ i _, ?_⟩
    rw [set1]
    refine ht k x H _ hk s1 fun H'' s2 => ?_
    cases hb : keep x with
    | false =>
      rw [if_neg Bool.false_ne_true]
      refine ⟨s1.trans s2, ?_⟩
      rw [s2 _ _ e1, et, filt_snoc, if_neg (by rw [hb]; exact Bool.false_ne_true), List.append_nil]
    | true =>
      rw [if_pos rfl]
      refine hs k x H'' _ hk hb (s1.trans s2) fun H4 s3 => ⟨_, s3 _ _ (s2 _ _ e1), ?_, same_upd' ((s1.trans s2).trans s3) hD, ?_⟩
      · rw [List.length_map]
        refine Nat.lt_of_le_of_lt (List.length_filter_le _ _) ?_
        rw [List.length_take]
        omega
      · rw [upd_same, et, filt_snoc, if_pos hb]
  · rintro H ⟨s1, e1⟩
    rw [List.take_length] at e1
    exact hd D H hD s1 e1
end

/-! ### isinstance of data -/
def tynD : PyData → String
  | .none => "NoneType"
  | .bool _ => "bool"
  | .int _ => "int"
  | .str _ => "str"
  | .list _ => "list"
  | .tuple _ => "tuple"
  | .dict _ => "dict"
theorem tyx_of {K : PySem.W.Frag} {H : Hp} {v : V} {d : PyData} (h : Dp K H v d) : TyX K H v (.type (tynD d)) := by
  cases h with
  | non => exact .base .non
  | bl b => exact .base (.bl b)
  | int i => exact .base (.int i)
  | str x => exact .base (.str x)
  | lst hs ha =>
    rcases hs with (hs | ⟨o, hs⟩) | ⟨o, its, n, h1, h2, _⟩
    · exact .base (.lst hs)
    · exact .base (.frz hs)
    · exact .kList h1 h2
  | tup hs ha =>
    rcases hs with (hs | ⟨o, hs⟩) | ⟨o, its, n, h1, h2, _⟩
    · exact .base (.tup hs)
    · exact .fTuple hs
    · exact .kTuple h1 h2

/-! ### rules that name the written part (for blocks of comprehensions) -/
section
variable {X : Cx} {K : PySem.W.Frag}
theorem ixT (h : X.K = K) : IxR X (rIxT K) := by
  subst h
  exact ix_tup
theorem ixL (h : X.K = K) : IxR X (rIxL K) := by
  subst h
  exact ix_list
def rLenS (K : PySem.W.Frag) : List V → Hp → VK → Prop := fun xs H Q => ∃ p ys, xs = [.ref p] ∧ (SqL K H p ys ∨ SqT K H p ys) ∧ Q (.int ys.length) H
theorem lenS (h : X.K = K) : CallR X (.builtin "len") (rLenS K) := by
  subst h
  exact call_len_seq
theorem tupS (h : X.K = K) : CallR X (.type "tuple") (rTupQ K) := by
  subst h
  exact call_tupQ
theorem inS (h : X.K = K) : OpR X (compareOp .In) (rIn K false) := by
  subst h
  exact op_in_seq
theorem neDS (h : X.K = K) (hu : X.A.units + 64 < cLine) : OpR X (compareOp .NotEq) (rNeD K) := by
  subst h
  exact op_neD hu
theorem piT {tg l : Expr} {tl : TE} (h : X.K = K) (hl : PE X l tl) : PI X tg l (iTup K tl) := by
  subst h
  exact pi_tup hl
theorem piL {tg l : Expr} {tl : TE} (h : X.K = K) (hl : PE X l tl) : PI X tg l (iList K tl) := by
  subst h
  exact pi_list hl
theorem fldS {e : Expr} {f : Str} {pos : Pos} {te : TE} (h : X.K = K) (he : PE X e te) (hb : attributeBase e f X.env (eval e X.env) = eval e X.env := by rfl) : PE X (.Attribute e f pos) (tFld K te f) := by
  subst h
  exact pe_fld he hb
theorem tgT {es : List Expr} {k : Nat} {t : TGs} {n : Nat} {pos : Pos} (h : X.K = K) (hc : X.calm = true) (hs : PGs X es t) (hn : (assignEach es X.env).length = n := by rfl) (hst : (assignEach es X.env).findIdx? (·.1) = none := by rfl) :
    PG X (.Tuple es k pos) (gTup K n t) := by
  subst h
  exact pg_tup hc hs hn hst
end
end Rk
set_option maxHeartbeats 4000000
/-! The mathematics, first part: rows as words without end, their periods, the one form. -/
namespace Rk

/-- the row without end, both ways -/
def bAt (r : Row) (i : Int) : Bool := r.getD (i % (r.length : Int)).toNat false
/-- the row begun k places later -/
def rol (r : Row) (k : Int) : Row := r.drop (k % (r.length : Int)).toNat ++ r.take (k % (r.length : Int)).toNat
theorem len_pos {r : Row} (h : r ≠ []) : (0 : Int) < r.length := by
  have := List.length_pos_iff.mpr h
  omega
theorem emod_lt {r : Row} (h : r ≠ []) (i : Int) : (i % (r.length : Int)).toNat < r.length := by
  have h1 := Int.emod_nonneg i (Int.ne_of_gt (len_pos h))
  have h2 := Int.emod_lt_of_pos i (len_pos h)
  omega
theorem bAt_get {r : Row} (h : r ≠ []) (i : Int) : bAt r i = r[(i % (r.length : Int)).toNat]'(emod_lt h i) := by
  unfold bAt
  rw [List.getD_eq_getElem?_getD, List.getElem?_eq_getElem (emod_lt h i)]
  rfl
theorem bAt_nat {r : Row} {k : Nat} (hk : k < r.length) : bAt r (k : Int) = r[k] := by
  have h : r ≠ [] := fun e => by
    rw [e] at hk
    exact absurd hk (Nat.not_lt_zero _)
  rw [bAt_get h]
  congr 1
  rw [Int.emod_eq_of_lt (by omega) (by omega)]
  omega
theorem bAt_emod (r : Row) (i : Int) : bAt r (i % (r.length : Int)) = bAt r i := by
  unfold bAt
  rw [Int.emod_emod_of_dvd i (Int.dvd_refl _)]
theorem bAt_congr {r : Row} {i j : Int} (h : i % (r.length : Int) = j % (r.length : Int)) : bAt r i = bAt r j := by
  unfold bAt
  rw [h]
theorem bAt_len (r : Row) (i k : Int) : bAt r (i + r.length * k) = bAt r i := bAt_congr (Int.add_mul_emod_self_left i _ k)
theorem row_ext {r t : Row} (hl : r.length = t.length) (h : ∀ i : Int, bAt r i = bAt t i) : r = t := by
  refine List.ext_getElem hl fun k h1 h2 => ?_
  rw [← bAt_nat h1, ← bAt_nat h2]
  exact h k
theorem rol_length (r : Row) (k : Int) : (rol r k).length = r.length := by
  unfold rol
  rw [List.length_append, List.length_drop, List.length_take]
  omega
theorem rol_ne {r : Row} (h : r ≠ []) (k : Int) : rol r k ≠ [] := fun e => by
  have := rol_length r k
  rw [e] at this
  exact h (List.eq_nil_of_length_eq_zero this.symm)
theorem bAt_rol {r : Row} (h : r ≠ []) (k i : Int) : bAt (rol r k) i = bAt r (i + k) := by
  have hn := len_pos h
  rw [bAt_get (rol_ne h k), bAt_get h]
  have c1 := emod_lt h k
  have hk0 := Int.emod_nonneg k (Int.ne_of_gt hn)
  have hj0 := Int.emod_nonneg i (Int.ne_of_gt hn)
  have hj1 := Int.emod_lt_of_pos i hn
  have hk1 := Int.emod_lt_of_pos k hn
  have es : (i + k) % (r.length : Int) = (i % (r.length : Int) + k % (r.length : Int)) % (r.length : Int) := Int.add_emod i k _
  have el : ((rol r k).length : Int) = r.length := by rw [rol_length]
  by_cases hlt : i % (r.length : Int) + k % (r.length : Int) < r.length
  · have e2 : (i + k) % (r.length : Int) = i % (r.length : Int) + k % (r.length : Int) := by rw [es, Int.emod_eq_of_lt (by omega) hlt]
    have z : (rol r k)[(i % ((rol r k).length : Int)).toNat]? = r[((i + k) % (r.length : Int)).toNat]? := by
      rw [el]
      unfold rol
      rw [List.getElem?_append_left (by rw [List.length_drop]; omega), List.getElem?_drop, e2]
      congr 1
      omega
    rw [List.getElem?_eq_getElem (emod_lt (rol_ne h k) i), List.getElem?_eq_getElem (emod_lt h (i + k))] at z
    exact Option.some.inj z
  · have e2 : (i + k) % (r.length : Int) = i % (r.length : Int) + k % (r.length : Int) - r.length := by
      rw [es, ← Int.sub_emod_right, Int.emod_eq_of_lt (by omega) (by omega)]
    have z : (rol r k)[(i % ((rol r k).length : Int)).toNat]? = r[((i + k) % (r.length : Int)).toNat]? := by
      rw [el]
      unfold rol
      rw [List.getElem?_append_right (by rw [List.length_drop]; omega), List.length_drop, e2, List.getElem?_take_of_lt (by omega)]
      congr 1
      omega
    rw [List.getElem?_eq_getElem (emod_lt (rol_ne h k) i), List.getElem?_eq_getElem (emod_lt h (i + k))] at z
    exact Option.some.inj z
theorem rol_zero {r : Row} (h : r ≠ []) : rol r 0 = r := row_ext (rol_length _ _) fun i => by rw [bAt_rol h, Int.add_zero]
theorem bAt_rev {r : Row} (h : r ≠ []) (i : Int) : bAt r.reverse i = bAt r (-1 - i) := by
  have hn := len_pos h
  have hr : r.reverse ≠ [] := by simpa using h
  rw [bAt_get hr, bAt_get h]
  have hj0 := Int.emod_nonneg i (Int.ne_of_gt hn)
  have hj1 := Int.emod_lt_of_pos i hn
  have e2 : (-1 - i) % (r.length : Int) = r.length - 1 - i % (r.length : Int) := by
    have q : (-1 - i) % (r.length : Int) = (-1 - i % (r.length : Int)) % (r.length : Int) := by
      rw [Int.sub_emod, Int.sub_emod (-1) (i % (r.length : Int)), Int.emod_emod_of_dvd i (Int.dvd_refl _)]
    rw [q, ← Int.add_emod_right, Int.emod_eq_of_lt (by omega) (by omega)]
    omega
  have z : (r.reverse)[(i % (r.reverse.length : Int)).toNat]? = r[((-1 - i) % (r.length : Int)).toNat]? := by
    rw [List.length_reverse, List.getElem?_reverse (by omega), e2]
    congr 1
    omega
  rw [List.getElem?_eq_getElem (emod_lt hr i), List.getElem?_eq_getElem (emod_lt h (-1 - i))] at z
  exact Option.some.inj z
theorem bAt_not {r : Row} (h : r ≠ []) (i : Int) : bAt (r.map (!·)) i = !bAt r i := by
  have hr : r.map (!·) ≠ [] := by simpa using h
  rw [bAt_get hr, bAt_get h]
  simp

/-! ### periods -/
def Pr (r : Row) (p : Int) : Prop := ∀ i : Int, bAt r (i + p) = bAt r i
theorem Pr.len (r : Row) : Pr r r.length := fun i => by
  have := bAt_len r i 1
  rwa [Int.mul_one] at this
theorem Pr.neg {r : Row} {p : Int} (h : Pr r p) : Pr r (-p) := fun i => by
  have := h (i + -p)
  rw [Int.neg_add_cancel_right] at this
  exact this.symm
theorem Pr.add {r : Row} {p q : Int} (h : Pr r p) (h' : Pr r q) : Pr r (p + q) := fun i => by rw [← Int.add_assoc, h', h]
theorem Pr.mulN {r : Row} {p : Int} (h : Pr r p) : ∀ k : Nat, Pr r (p * k)
  | 0 => fun i => by simp
  | k + 1 => by
    have e : p * ((k + 1 : Nat) : Int) = p * k + p := by rw [Int.natCast_add, Int.mul_add]; simp
    rw [e]
    exact (Pr.mulN h k).add h
theorem Pr.mul {r : Row} {p : Int} (h : Pr r p) (k : Int) : Pr r (p * k) := by
  rcases Int.eq_nat_or_neg k with ⟨n, rfl | rfl⟩
  · exact h.mulN n
  · rw [Int.mul_neg]
    exact (h.mulN n).neg
theorem Pr.gcd {r : Row} (a b : Nat) : Pr r a → Pr r b → Pr r (Nat.gcd a b) := by
  refine Nat.gcd.induction (P := fun a b => Pr r a → Pr r b → Pr r (Nat.gcd a b)) a b (fun n _ h => by rw [Nat.gcd_zero_left]; exact h) fun m n hm ih ha hb => ?_
  rw [Nat.gcd_rec]
  refine ih ?_ ha
  have e : ((n % m : Nat) : Int) = (n : Int) + (-((m : Int) * ((n / m : Nat) : Int))) := by
    have := Nat.div_add_mod n m
    have h2 : (m : Int) * ((n / m : Nat) : Int) = ((m * (n / m) : Nat) : Int) := by simp
    rw [h2]
    omega
  rw [e]
  exact hb.add (ha.mulN (n / m)).neg

/-- what least_step asks of a step -/
def per (r : Row) (p : Nat) : Bool := decide (r.length % p = 0) && decide (r.drop p = r.take (r.length - p))
theorem per_iff {r : Row} (h : r ≠ []) {p : Nat} (hp : 1 ≤ p) : per r p = true ↔ p ∣ r.length ∧ Pr r p := by
  have hn := List.length_pos_iff.mpr h
  unfold per
  rw [Bool.and_eq_true, decide_eq_true_eq, decide_eq_true_eq, ← Nat.dvd_iff_mod_eq_zero]
  constructor
  · rintro ⟨hd, he⟩
    refine ⟨hd, ?_⟩
    have hle : p ≤ r.length := Nat.le_of_dvd hn hd
    have step : ∀ x, x + p < r.length → r[x + p]? = r[x]? := fun x hx => by
      have z := congrArg (fun l => l[x]?) he
      simp only [List.getElem?_drop] at z
      rw [List.getElem?_take_of_lt (by omega)] at z
      rw [Nat.add_comm]
      exact z
    have steps : ∀ (t x : Nat), x + t * p < r.length → r[x + t * p]? = r[x]? := by
      intro t
      induction t with
      | zero => intro x _; simp
      | succ t ih =>
        intro x hx
        have e : x + (t + 1) * p = (x + t * p) + p := by rw [Nat.add_mul, Nat.one_mul]; omega
        rw [e] at hx ⊢
        rw [step _ hx, ih x (by omega)]
    intro i
    have hj := emod_lt h i
    have hj0 := Int.emod_nonneg i (Int.ne_of_gt (len_pos h))
    rw [bAt_get h, bAt_get h]
    have es : (i + (p : Int)) % (r.length : Int) = (i % (r.length : Int) + p) % (r.length : Int) := (Int.emod_add_emod i _ _).symm
    have z : r[((i + (p : Int)) % (r.length : Int)).toNat]? = r[(i % (r.length : Int)).toNat]? := by
      by_cases hlt : i % (r.length : Int) + p < r.length
      · rw [es, Int.emod_eq_of_lt (by omega) hlt]
        have e : (i % (r.length : Int) + (p : Int)).toNat = (i % (r.length : Int)).toNat + p := by omega
        rw [e]
        exact step _ (by omega)
      · have e1 : (i % (r.length : Int) + p) % (r.length : Int) = i % (r.length : Int) + p - r.length := by rw [← Int.sub_emod_right, Int.emod_eq_of_lt (by omega) (by omega)]
        rw [es, e1]
        obtain ⟨c, hc⟩ := hd
        have hc1 : 1 ≤ c := by
          rcases Nat.eq_zero_or_pos c with z | z
          · rw [z] at hc; omega
          · exact z
        have e2 : (i % (r.length : Int)).toNat = (i % (r.length : Int) + (p : Int) - r.length).toNat + (c - 1) * p := by
          have : (c - 1) * p = r.length - p := by
            rw [hc, Nat.sub_mul, Nat.one_mul, Nat.mul_comm]
          rw [this]
          omega
        rw [e2]
        exact (steps (c - 1) _ (by rw [← e2]; exact hj)).symm
    rw [List.getElem?_eq_getElem (emod_lt h _), List.getElem?_eq_getElem (emod_lt h _)] at z
    exact Option.some.inj z
  · rintro ⟨hd, hp'⟩
    refine ⟨hd, List.ext_getElem? fun k => ?_⟩
    have hle : p ≤ r.length := Nat.le_of_dvd hn hd
    rw [List.getElem?_drop]
    by_cases hk : k < r.length - p
    · rw [List.getElem?_take_of_lt hk, List.getElem?_eq_getElem (by omega), List.getElem?_eq_getElem (by omega), ← bAt_nat (r := r) (k := p + k) (by omega), ← bAt_nat (r := r) (k := k) (by omega)]
      have := hp' k
      rw [← this]
      congr 2
      omega
    · rw [List.getElem?_eq_none (by omega), List.getElem?_eq_none (by rw [List.length_take]; omega)]
theorem per_len {r : Row} (h : r ≠ []) : per r r.length = true := (per_iff h (List.length_pos_iff.mpr h)).mpr ⟨Nat.dvd_refl _, Pr.len r⟩

def lsGo (r : Row) : Nat → Nat → Nat
  | 0, p => p
  | f + 1, p => if per r p = true then p else lsGo r f (p + 1)
/-- the least step -/
def lstep (r : Row) : Nat := lsGo r r.length 1
theorem lsGo_spec (r : Row) : ∀ (f p q : Nat), p ≤ q → q ≤ p + f → per r q = true → (∀ j, p ≤ j → j < q → per r j = false) → lsGo r f p = q
  | 0, p, q, h1, h2, _, _ => by
    have : p = q := by omega
    exact this
  | f + 1, p, q, h1, h2, h3, h4 => by
    unfold lsGo
    by_cases hpq : p = q
    · subst hpq
      rw [if_pos h3]
    · rw [if_neg (by rw [h4 p (Nat.le_refl _) (by omega)]; exact Bool.false_ne_true)]
      exact lsGo_spec r f (p + 1) q (by omega) (by omega) h3 fun j h5 h6 => h4 j (by omega) h6
theorem least_of {P : Nat → Prop} [DecidablePred P] : ∀ n, P n → ∃ m, m ≤ n ∧ P m ∧ ∀ j, j < m → ¬ P j := by
  intro n
  induction n using Nat.strongRecOn with
  | _ n ih =>
    intro hn
    by_cases h : ∃ j, j < n ∧ P j
    · obtain ⟨j, hj, hp⟩ := h
      obtain ⟨m, h1, h2, h3⟩ := ih j hj hp
      exact ⟨m, by omega, h2, h3⟩
    · exact ⟨n, Nat.le_refl _, hn, fun j hj hp => h ⟨j, hj, hp⟩⟩
theorem lstep_ok {r : Row} (h : r ≠ []) : 1 ≤ lstep r ∧ lstep r ≤ r.length ∧ per r (lstep r) = true ∧ ∀ j, 1 ≤ j → j < lstep r → per r j = false := by
  have hn := List.length_pos_iff.mpr h
  obtain ⟨m, h1, ⟨h2, h3⟩, h4⟩ := least_of (P := fun p => 1 ≤ p ∧ per r p = true) r.length ⟨hn, per_len h⟩
  have e : lstep r = m := lsGo_spec r r.length 1 m h2 (by omega) h3 fun j h5 h6 => by
    cases q : per r j with
    | false => rfl
    | true => exact absurd ⟨h5, q⟩ (h4 j h6)
  rw [e]
  refine ⟨h2, h1, h3, fun j h5 h6 => ?_⟩
  cases q : per r j with
  | false => rfl
  | true => exact absurd ⟨h5, q⟩ (h4 j h6)
theorem lstep_pr {r : Row} (h : r ≠ []) : Pr r (lstep r) := ((per_iff h (lstep_ok h).1).mp (lstep_ok h).2.2.1).2
theorem lstep_dvd_len {r : Row} (h : r ≠ []) : lstep r ∣ r.length := ((per_iff h (lstep_ok h).1).mp (lstep_ok h).2.2.1).1
/-- the least step divides every period -/
theorem lstep_dvd {r : Row} (h : r ≠ []) {q : Nat} (hq : Pr r q) : lstep r ∣ q := by
  obtain ⟨h1, h2, h3, h4⟩ := lstep_ok h
  have hg : Pr r (Nat.gcd (lstep r) q) := Pr.gcd _ _ (lstep_pr h) hq
  have hd : Nat.gcd (lstep r) q ∣ lstep r := Nat.gcd_dvd_left _ _
  have hp : 0 < Nat.gcd (lstep r) q := Nat.gcd_pos_of_pos_left _ h1
  have hle : Nat.gcd (lstep r) q ≤ lstep r := Nat.le_of_dvd h1 hd
  by_cases hlt : Nat.gcd (lstep r) q < lstep r
  · have := h4 _ hp hlt
    rw [(per_iff h hp).mpr ⟨Nat.dvd_trans hd (lstep_dvd_len h), hg⟩] at this
    cases this
  · have e : Nat.gcd (lstep r) q = lstep r := by omega
    rw [← e]
    exact Nat.gcd_dvd_right _ _
theorem lstep_congr {r t : Row} (hr : r ≠ []) (ht : t ≠ []) (h : ∀ p : Nat, Pr r p ↔ Pr t p) : lstep r = lstep t :=
  Nat.dvd_antisymm (lstep_dvd hr ((h _).mpr (lstep_pr ht))) (lstep_dvd ht ((h _).mp (lstep_pr hr)))
theorem lstep_rol {r : Row} (h : r ≠ []) (k : Int) : lstep (rol r k) = lstep r := lstep_congr (rol_ne h k) h fun p => by
  constructor
  · intro z i
    have := z (i - k)
    rw [bAt_rol h, bAt_rol h] at this
    rw [show i - k + k = i by omega, show i - k + (p : Int) + k = i + p by omega] at this
    exact this
  · intro z i
    rw [bAt_rol h, bAt_rol h, show i + (p : Int) + k = i + k + p by omega]
    exact z _
theorem lstep_rev {r : Row} (h : r ≠ []) : lstep r.reverse = lstep r := lstep_congr (by simpa using h) h fun p => by
  constructor
  · intro z i
    have := z (-1 - (i + p))
    rw [bAt_rev h, bAt_rev h] at this
    rw [show -1 - (-1 - (i + (p : Int)) + p) = i by omega, show -1 - (-1 - (i + (p : Int))) = i + p by omega] at this
    exact this.symm
  · intro z i
    rw [bAt_rev h, bAt_rev h]
    have := z (-1 - (i + p))
    rw [show -1 - (i + (p : Int)) + p = -1 - i by omega] at this
    exact this.symm
theorem lstep_not {r : Row} (h : r ≠ []) : lstep (r.map (!·)) = lstep r := lstep_congr (by simpa using h) h fun p => by
  constructor
  · intro z i
    have := z i
    rw [bAt_not h, bAt_not h] at this
    simpa using this
  · intro z i
    rw [bAt_not h, bAt_not h, z i]
/-- the row cut to its least step: the same word without end -/
theorem cut_ne {r : Row} (h : r ≠ []) : r.take (lstep r) ≠ [] := fun e => by
  have h1 := congrArg List.length e
  rw [List.length_take, List.length_nil] at h1
  have := (lstep_ok h).1
  have := (lstep_ok h).2.1
  omega
theorem cut_len {r : Row} (h : r ≠ []) : (r.take (lstep r)).length = lstep r := by
  rw [List.length_take]
  exact Nat.min_eq_left (lstep_ok h).2.1
theorem cut_at {r : Row} (h : r ≠ []) (i : Int) : bAt (r.take (lstep r)) i = bAt r i := by
  have h1 := (lstep_ok h).1
  have h2 := (lstep_ok h).2.1
  have hl : (0 : Int) < lstep r := by omega
  have e0 : bAt r i = bAt r (i % (lstep r : Int)) := by
    have z := (lstep_pr h).mul (i / (lstep r : Int)) (i % (lstep r : Int))
    rw [Int.emod_add_mul_ediv] at z
    exact z
  have b0 := Int.emod_nonneg i (Int.ne_of_gt hl)
  have b1 := Int.emod_lt_of_pos i hl
  have e1 : bAt (r.take (lstep r)) i = (r.take (lstep r)).getD (i % (lstep r : Int)).toNat false := by
    unfold bAt
    rw [cut_len h]
  rw [e0, e1]
  have hk : (i % (lstep r : Int)).toNat < r.length := by omega
  have e2 : bAt r (i % (lstep r : Int)) = bAt r (((i % (lstep r : Int)).toNat : Nat) : Int) := congrArg (bAt r) (by omega)
  rw [e2, bAt_nat hk, List.getD_eq_getElem?_getD, List.getElem?_take_of_lt (by omega), List.getElem?_eq_getElem hk]
  rfl
theorem cut_prim {r : Row} (h : r ≠ []) : lstep (r.take (lstep r)) = lstep r := lstep_congr (cut_ne h) h fun p => by
  constructor
  · intro z i
    have := z i
    rw [cut_at h, cut_at h] at this
    exact this
  · intro z i
    rw [cut_at h, cut_at h]
    exact z i

/-! ### the one form -/
abbrev Form : Type := Int × Row × Row × Row
/-- the middle's or the row's truth, counted from the middle's beginning -/
def pieceB (b m : Row) (at_ : Int) : Bool := if at_ < 0 then bAt b at_ else m.getD at_.toNat false
/-- the middle is a piece of the word w -/
def allM (w m : Row) : Prop := ∀ i (h : i < m.length), m[i] = bAt w i
/-- how many truths at the middle's end are the word's above -/
def LowerIs (b m a : Row) (l : Nat) : Prop := (∀ j : Nat, j < l → pieceB b m ((m.length : Int) - 1 - j) = bAt a (-1 - (j : Int))) ∧ pieceB b m ((m.length : Int) - 1 - l) ≠ bAt a (-1 - (l : Int))
/-- how many at its beginning are the word's below -/
def HigherIs (b m : Row) (left h : Nat) : Prop := h ≤ left ∧ (∀ j : Nat, j < h → m.getD j false = bAt b j) ∧ (h = left ∨ m.getD h false ≠ bAt b h)
def LeastMid (s : Int) (b m a : Row) (F : Form) : Prop := ∃ l : Nat, LowerIs b m a l ∧
  (((m.length : Int) - l ≤ 0 ∧ F = (s + ((m.length : Int) - l), rol b ((m.length : Int) - l), [], rol a (-(l : Int)))) ∨
   (l < m.length ∧ ∃ h : Nat, HigherIs b m (m.length - l) h ∧ F = (s + h, rol b h, (m.take (m.length - l)).drop h, rol a (-(l : Int)))))
def OneForm (s : Int) (b m a : Row) (F : Form) : Prop :=
  (b.take (lstep b) = rol (a.take (lstep a)) (-(m.length : Int)) ∧ allM (rol (a.take (lstep a)) (-(m.length : Int))) m ∧
      F = (0, rol (rol (a.take (lstep a)) (-(m.length : Int))) (-s), [], rol (rol (a.take (lstep a)) (-(m.length : Int))) (-s))) ∨
  (¬ (b.take (lstep b) = rol (a.take (lstep a)) (-(m.length : Int)) ∧ allM (rol (a.take (lstep a)) (-(m.length : Int))) m) ∧ LeastMid s (b.take (lstep b)) m (a.take (lstep a)) F)
/-- rows that are primitive: where the word isn't throughout, the way down ends -/
theorem lower_ends {b m a : Row} (hb : b ≠ []) (ha : a ≠ []) (pb : lstep b = b.length) (pa : lstep a = a.length) (h : ¬ (b = rol a (-(m.length : Int)) ∧ allM (rol a (-(m.length : Int))) m)) : ∃ l, LowerIs b m a l := by
  by_cases hall : ∀ l : Nat, pieceB b m ((m.length : Int) - 1 - l) = bAt a (-1 - (l : Int))
  · refine absurd ?_ h
    have hw : ∀ i : Int, bAt (rol a (-(m.length : Int))) i = bAt a (i - m.length) := fun i => bAt_rol ha _ _
    have neg : ∀ i : Int, i < 0 → bAt b i = bAt (rol a (-(m.length : Int))) i := fun i hi => by
      have z := hall ((m.length : Int) - 1 - i).toNat
      rw [show ((((m.length : Int) - 1 - i).toNat : Nat) : Int) = (m.length : Int) - 1 - i by omega] at z
      unfold pieceB at z
      rw [if_pos (by omega), show (m.length : Int) - 1 - ((m.length : Int) - 1 - i) = i by omega] at z
      rw [hw, z]
      congr 1
      omega
    have hbl := len_pos hb
    have hal := len_pos ha
    have all_ : ∀ i : Int, bAt b i = bAt (rol a (-(m.length : Int))) i := fun i => by
      have e1 := bAt_len b i (-((a.length : Int) * (i.natAbs + 1)))
      have e2 := bAt_len (rol a (-(m.length : Int))) i (-((b.length : Int) * (i.natAbs + 1)))
      rw [rol_length] at e2
      rw [← e1, ← e2]
      have e3 : (b.length : Int) * (-((a.length : Int) * (i.natAbs + 1))) = (a.length : Int) * (-((b.length : Int) * (i.natAbs + 1))) := by
        rw [Int.mul_neg, Int.mul_neg, ← Int.mul_assoc, ← Int.mul_assoc, Int.mul_comm (b.length : Int)]
      rw [← e3]
      refine neg _ ?_
      have e4 : (i.natAbs : Int) + 1 ≤ (b.length : Int) * ((a.length : Int) * (i.natAbs + 1)) := by
        have q1 : (1 : Int) * (i.natAbs + 1) ≤ (a.length : Int) * (i.natAbs + 1) := Int.mul_le_mul_of_nonneg_right (by omega) (by omega)
        have q2 : (1 : Int) * ((a.length : Int) * (i.natAbs + 1)) ≤ (b.length : Int) * ((a.length : Int) * (i.natAbs + 1)) := Int.mul_le_mul_of_nonneg_right (by omega) (by omega)
        omega
      rw [Int.mul_neg]
      omega
    have pe : ∀ p : Nat, Pr b p ↔ Pr (rol a (-(m.length : Int))) p := fun p => by
      constructor
      · intro z i
        rw [← all_, ← all_]
        exact z i
      · intro z i
        rw [all_, all_]
        exact z i
    have el : b.length = a.length := by
      have := lstep_congr hb (rol_ne ha (-(m.length : Int))) pe
      rw [lstep_rol ha] at this
      omega
    refine ⟨row_ext (by rw [rol_length]; exact el) all_, fun i hi => ?_⟩
    have z := hall (m.length - 1 - i)
    unfold pieceB at z
    rw [if_neg (by omega), show ((m.length : Int) - 1 - ((m.length - 1 - i : Nat) : Int)).toNat = i by omega, List.getD_eq_getElem?_getD, List.getElem?_eq_getElem hi] at z
    rw [hw]
    refine Eq.trans z ?_
    congr 1
    omega
  · have ⟨l, hl⟩ := Classical.not_forall.mp hall
    obtain ⟨m', _, h2, h3⟩ := least_of (P := fun l : Nat => pieceB b m ((m.length : Int) - 1 - l) ≠ bAt a (-1 - (l : Int))) l hl
    exact ⟨m', fun j hj => Classical.not_not.mp (h3 j hj), h2⟩
/-- the rows of the one form: as long as the least steps, primitive, not empty -/
theorem form_rows {s : Int} {b m a : Row} {F : Form} (hb : b ≠ []) (ha : a ≠ []) (h : OneForm s b m a F) :
    F.2.1.length = lstep b ∧ F.2.2.2.length = lstep a ∧ lstep F.2.1 = F.2.1.length ∧ lstep F.2.2.2 = F.2.2.2.length ∧ F.2.1 ≠ [] ∧ F.2.2.2 ≠ [] ∧ F.2.2.1.length ≤ m.length := by
  have cb := cut_ne hb
  have ca := cut_ne ha
  rcases h with ⟨h1, _, rfl⟩ | ⟨_, l, _, ⟨_, rfl⟩ | ⟨_, h, _, rfl⟩⟩
  · have e : lstep b = lstep a := by
      have z := congrArg lstep h1
      rw [lstep_rol ca, cut_prim hb, cut_prim ha] at z
      exact z
    have r1 := rol_ne ca (-(m.length : Int))
    refine ⟨?_, ?_, ?_, ?_, rol_ne r1 _, rol_ne r1 _, Nat.zero_le _⟩
    · show (rol _ _).length = _
      rw [rol_length, rol_length, cut_len ha, e]
    · show (rol _ _).length = _
      rw [rol_length, rol_length, cut_len ha]
    · show lstep (rol _ _) = (rol _ _).length
      rw [rol_length, lstep_rol r1, lstep_rol ca, rol_length, cut_prim ha, cut_len ha]
    · show lstep (rol _ _) = (rol _ _).length
      rw [rol_length, lstep_rol r1, lstep_rol ca, rol_length, cut_prim ha, cut_len ha]
  · refine ⟨?_, ?_, ?_, ?_, rol_ne cb _, rol_ne ca _, Nat.zero_le _⟩
    · show (rol _ _).length = _
      rw [rol_length, cut_len hb]
    · show (rol _ _).length = _
      rw [rol_length, cut_len ha]
    · show lstep (rol _ _) = (rol _ _).length
      rw [lstep_rol cb, rol_length, cut_prim hb, cut_len hb]
    · show lstep (rol _ _) = (rol _ _).length
      rw [lstep_rol ca, rol_length, cut_prim ha, cut_len ha]
  · refine ⟨?_, ?_, ?_, ?_, rol_ne cb _, rol_ne ca _, ?_⟩
    · show (rol _ _).length = _
      rw [rol_length, cut_len hb]
    · show (rol _ _).length = _
      rw [rol_length, cut_len ha]
    · show lstep (rol _ _) = (rol _ _).length
      rw [lstep_rol cb, rol_length, cut_prim hb, cut_len hb]
    · show lstep (rol _ _) = (rol _ _).length
      rw [lstep_rol ca, rol_length, cut_prim ha, cut_len ha]
    · show ((m.take _).drop h).length ≤ _
      rw [List.length_drop, List.length_take]
      omega
end Rk
set_option maxHeartbeats 4000000
/-! The mathematics, second part: the form where the rows below and above are single truths; rows with one truth. -/
namespace Rk

theorem bAt_one (a : Bool) (i : Int) : bAt [a] i = a := by
  unfold bAt
  have e : (i % (([a] : Row).length : Int)).toNat = 0 := by
    show (i % 1).toNat = 0
    omega
  rw [e]
  rfl
theorem rol_one (a : Bool) (k : Int) : rol [a] k = [a] := row_ext (rol_length _ _) fun i => by rw [bAt_rol (by simp), bAt_one, bAt_one]
theorem lstep_one (a : Bool) : lstep [a] = 1 := by
  have h := lstep_ok (r := [a]) (by simp)
  have : ([a] : Row).length = 1 := rfl
  omega
theorem take_one (a : Bool) : ([a] : Row).take (lstep [a]) = [a] := by rw [lstep_one]; rfl
/-- the one form of (s, (b,), m, (a,)) -/
def SF (s : Int) (b : Bool) (m : Row) (a : Bool) (F : Form) : Prop :=
  (b = a ∧ (∀ j, j < m.length → m.getD j false = a) ∧ F = (0, [a], [], [a])) ∨
  (¬ (b = a ∧ ∀ j, j < m.length → m.getD j false = a) ∧ ∃ l h : Nat, l ≤ m.length ∧ (∀ j, j < l → m.getD (m.length - 1 - j) false = a) ∧ (l = m.length → b ≠ a) ∧ (l < m.length → m.getD (m.length - 1 - l) false ≠ a) ∧
    h ≤ m.length - l ∧ (∀ j, j < h → m.getD j false = b) ∧ (h = m.length - l ∨ m.getD h false ≠ b) ∧ F = (s + h, [b], (m.take (m.length - l)).drop h, [a]))
theorem allM_one {a : Bool} {m : Row} : allM [a] m ↔ ∀ j, j < m.length → m.getD j false = a := by
  constructor
  · intro h j hj
    have z := h j hj
    rw [bAt_one] at z
    rw [List.getD_eq_getElem?_getD, List.getElem?_eq_getElem hj]
    exact z
  · intro h j hj
    have z := h j hj
    rw [List.getD_eq_getElem?_getD, List.getElem?_eq_getElem hj] at z
    rw [bAt_one]
    exact z
theorem sf_of {s : Int} {b a : Bool} {m : Row} {F : Form} (h : OneForm s [b] m [a] F) : SF s b m a F := by
  unfold OneForm at h
  rw [take_one, take_one, rol_one, rol_one] at h
  rcases h with ⟨h1, h2, h3⟩ | ⟨h1, l, ⟨h2, h3⟩, h4⟩
  · have e : b = a := by simpa using h1
    exact .inl ⟨e, allM_one.mp h2, h3⟩
  · rw [rol_one, rol_one] at h4
    have hn : ¬ (b = a ∧ ∀ j, j < m.length → m.getD j false = a) := fun z => h1 ⟨by rw [z.1], allM_one.mpr z.2⟩
    rw [bAt_one] at h3
    have hl : l ≤ m.length := by
      refine Nat.le_of_not_lt fun hlt => ?_
      have z := h2 m.length hlt
      unfold pieceB at z h3
      rw [if_pos (by omega), bAt_one, bAt_one] at z
      rw [if_pos (by omega), bAt_one] at h3
      exact h3 z
    have low : ∀ j, j < l → m.getD (m.length - 1 - j) false = a := fun j hj => by
      have z := h2 j hj
      unfold pieceB at z
      rw [if_neg (by omega), bAt_one, show ((m.length : Int) - 1 - j).toNat = m.length - 1 - j by omega] at z
      exact z
    have ba : l = m.length → b ≠ a := fun e => by
      unfold pieceB at h3
      rw [if_pos (by omega), bAt_one] at h3
      exact h3
    have na : l < m.length → m.getD (m.length - 1 - l) false ≠ a := fun e => by
      unfold pieceB at h3
      rw [if_neg (by omega), show ((m.length : Int) - 1 - l).toNat = m.length - 1 - l by omega] at h3
      exact h3
    refine .inr ⟨hn, ?_⟩
    rcases h4 with ⟨h5, h6⟩ | ⟨h5, k, ⟨h6, h7, h8⟩, h9⟩
    · have e : l = m.length := by omega
      refine ⟨l, 0, hl, low, ba, na, Nat.zero_le _, fun j hj => absurd hj (Nat.not_lt_zero _), .inl (by omega), ?_⟩
      rw [h6, e]
      simp
    · refine ⟨l, k, hl, low, ba, na, h6, fun j hj => ?_, ?_, ?_⟩
      · have z := h7 j hj
        rw [bAt_one] at z
        exact z
      · rw [bAt_one] at h8
        exact h8
      · rw [h9, rol_one]
theorem sf_uniq {s : Int} {b a : Bool} {m : Row} {F G : Form} (hF : SF s b m a F) (hG : SF s b m a G) : F = G := by
  rcases hF with ⟨f1, f2, rfl⟩ | ⟨f1, l, h, f2, f3, f4, f5, f6, f7, f8, rfl⟩
  · rcases hG with ⟨_, _, rfl⟩ | ⟨g1, _⟩
    · rfl
    · exact absurd ⟨f1, f2⟩ g1
  · rcases hG with ⟨g1, g2, rfl⟩ | ⟨g1, l', h', g2, g3, g4, g5, g6, g7, g8, rfl⟩
    · exact absurd ⟨g1, g2⟩ f1
    · have el : l = l' := by
        rcases Nat.lt_trichotomy l l' with z | z | z
        · exact absurd (g3 l z) (f5 (by omega))
        · exact z
        · exact absurd (f3 l' z) (g5 (by omega))
      subst el
      have eh : h = h' := by
        rcases Nat.lt_trichotomy h h' with z | z | z
        · rcases f8 with q | q
          · omega
          · exact absurd (g7 h z) q
        · exact z
        · rcases g8 with q | q
          · omega
          · exact absurd (f7 h' z) q
      subst eh
      rfl
theorem sf_const (s : Int) (a : Bool) {m : Row} (h : ∀ j, j < m.length → m.getD j false = a) : SF s a m a (0, [a], [], [a]) := .inl ⟨rfl, h, rfl⟩
/-- nothing is trimmed -/
theorem sf_full (s : Int) (b a : Bool) {m : Row} (h0 : m ≠ []) (h1 : m.getD 0 false ≠ b) (h2 : m.getD (m.length - 1) false ≠ a) : SF s b m a (s, [b], m, [a]) := by
  have hp := List.length_pos_iff.mpr h0
  refine .inr ⟨fun z => h2 (z.2 _ (by omega)), 0, 0, Nat.zero_le _, fun j hj => absurd hj (Nat.not_lt_zero _), fun e => by omega, fun _ => h2, Nat.zero_le _, fun j hj => absurd hj (Nat.not_lt_zero _), .inr h1, ?_⟩
  simp
theorem sf_step (s : Int) {b a : Bool} (h : b ≠ a) : SF s b [] a (s, [b], [], [a]) := by
  refine .inr ⟨fun z => h z.1, 0, 0, Nat.le_refl _, fun j hj => absurd hj (Nat.not_lt_zero _), fun _ => h, fun z => absurd z (Nat.not_lt_zero _), Nat.zero_le _, fun j hj => absurd hj (Nat.not_lt_zero _), .inl rfl, ?_⟩
  simp
/-- nothing but i below and j above the piece t is trimmed -/
theorem sf_pad (s : Int) (i j : Nat) {t : Row} (h0 : t ≠ []) (h1 : t.getD 0 false = true) (h2 : t.getD (t.length - 1) false = true) : SF s false (List.replicate i false ++ t ++ List.replicate j false) false (s + i, [false], t, [false]) := by
  have hp := List.length_pos_iff.mpr h0
  have hl : (List.replicate i false ++ t ++ List.replicate j false).length = i + t.length + j := by simp [Nat.add_assoc]
  have g1 : ∀ k, k < i → (List.replicate i false ++ t ++ List.replicate j false).getD k false = false := fun k hk => by
    rw [List.getD_eq_getElem?_getD, List.append_assoc, List.getElem?_append_left (by simpa using hk), List.getElem?_replicate, if_pos hk]
    rfl
  have g2 : ∀ k, k < t.length → (List.replicate i false ++ t ++ List.replicate j false).getD (i + k) false = t.getD k false := fun k hk => by
    rw [List.getD_eq_getElem?_getD, List.append_assoc, List.getElem?_append_right (by simp), List.length_replicate, Nat.add_sub_cancel_left, List.getElem?_append_left hk, List.getD_eq_getElem?_getD]
  have g3 : ∀ k, i + t.length ≤ k → (List.replicate i false ++ t ++ List.replicate j false).getD k false = false := fun k hk => by
    rw [List.getD_eq_getElem?_getD, List.getElem?_append_right (by simpa using hk), List.getElem?_replicate]
    split <;> rfl
  refine .inr ⟨fun z => ?_, j, i, by omega, fun k hk => g3 _ (by omega), fun e => by omega, fun _ => ?_, by omega, fun k hk => g1 k hk, .inr ?_, ?_⟩
  · have q := z.2 i (by omega)
    have q2 := g2 0 hp
    rw [Nat.add_zero, h1, q] at q2
    cases q2
  · rw [hl, show i + t.length + j - 1 - j = i + (t.length - 1) by omega, g2 _ (by omega), h2]
    decide
  · have q2 := g2 0 hp
    rw [Nat.add_zero, h1] at q2
    rw [q2]
    decide
  · have e : ((List.replicate i false ++ t ++ List.replicate j false).take ((List.replicate i false ++ t ++ List.replicate j false).length - j)).drop i = t := by
      rw [hl, show i + t.length + j - j = i + t.length by omega, List.take_left' (by simp), List.drop_left' (by simp)]
    rw [e]

/-! ### rows with one truth -/
def hot (n k : Nat) : Row := (List.range n).map fun j => decide (j = k)
theorem hot_length (n k : Nat) : (hot n k).length = n := by simp [hot]
theorem hot_get {n k j : Nat} (hj : j < n) : (hot n k).getD j false = decide (j = k) := by
  unfold hot
  rw [List.getD_eq_getElem?_getD, List.getElem?_map, List.getElem?_range hj]
  rfl
theorem hot_ne {n k : Nat} (h : 0 < n) : hot n k ≠ [] := fun e => by
  have := hot_length n k
  rw [e] at this
  simp at this
  omega
theorem bAt_hot {n k : Nat} (hn : 0 < n) (i : Int) : bAt (hot n k) i = decide (i % (n : Int) = k) := by
  unfold bAt
  have h0 := Int.emod_nonneg i (show (n : Int) ≠ 0 by omega)
  have h1 := Int.emod_lt_of_pos i (show (0 : Int) < n by omega)
  rw [hot_length, hot_get (by omega)]
  by_cases h : i % (n : Int) = k
  · rw [decide_eq_true h, decide_eq_true (by omega)]
  · rw [decide_eq_false h, decide_eq_false (by omega)]
theorem lstep_hot {n k : Nat} (hk : k < n) : lstep (hot n k) = n := by
  have hn : 0 < n := by omega
  have ne := hot_ne (k := k) hn
  obtain ⟨h1, h2, h3, _⟩ := lstep_ok ne
  rw [hot_length] at h2
  have hp := lstep_pr ne
  refine Nat.le_antisymm h2 (Nat.le_of_not_lt fun hlt => ?_)
  have z := hp k
  rw [bAt_hot hn, bAt_hot hn, decide_eq_true (show (k : Int) % n = k from Int.emod_eq_of_lt (by omega) (by omega))] at z
  have z := of_decide_eq_true z
  by_cases hs : k + lstep (hot n k) < n
  · rw [Int.emod_eq_of_lt (by omega) (by omega)] at z
    omega
  · rw [← Int.sub_emod_right, Int.emod_eq_of_lt (by omega) (by omega)] at z
    omega
/-- a word throughout -/
theorem form_word {w : Row} (hw : w ≠ []) (hp : lstep w = w.length) {F : Form} (h : OneForm 0 w [] w F) : F = (0, w, [], w) := by
  unfold OneForm at h
  rw [hp, List.take_length] at h
  have e : rol w (-(([] : Row).length : Int)) = w := rol_zero hw
  rw [e] at h
  rcases h with ⟨_, _, h3⟩ | ⟨h1, _⟩
  · have e2 : rol w (-0) = w := rol_zero hw
    rw [h3, e2]
  · exact absurd ⟨rfl, fun i hi => absurd hi (Nat.not_lt_zero _)⟩ h1
/-- where the middle is empty and not throughout: the middle stays empty, the start goes down by l -/
theorem form_nomid {s : Int} {b a : Row} {F : Form} (h : OneForm s b [] a F) : F.2.2.1 = [] := by
  rcases h with ⟨_, _, rfl⟩ | ⟨_, l, _, ⟨_, rfl⟩ | ⟨h1, _⟩⟩
  · rfl
  · rfl
  · exact absurd h1 (Nat.not_lt_zero _)
/-- one truth of n above, none below: how far down -/
theorem form_up {s : Int} {n : Nat} (hn : 1 < n) {F : Form} (h : OneForm s [false] [] (hot n 0) F) : F.1 = s - (n - 1) := by
  have hp : 0 < n := by omega
  unfold OneForm at h
  rw [take_one, lstep_hot hp, List.take_of_length_le (by rw [hot_length]; exact Nat.le_refl _)] at h
  rcases h with ⟨h1, _⟩ | ⟨_, l, ⟨h2, h3⟩, h4⟩
  · have z := congrArg List.length h1
    rw [rol_length, hot_length] at z
    simp at z
    omega
  · have el : l = n - 1 := by
      rcases Nat.lt_trichotomy l (n - 1) with z | z | z
      · unfold pieceB at h3
        rw [if_pos (by show (0 : Int) - 1 - l < 0; omega), bAt_one, bAt_hot hp, ← Int.add_emod_right, Int.emod_eq_of_lt (by omega) (by omega), decide_eq_false (by omega)] at h3
        exact absurd rfl h3
      · exact z
      · have q := h2 (n - 1) z
        unfold pieceB at q
        rw [if_pos (by show (0 : Int) - 1 - ((n - 1 : Nat) : Int) < 0; omega), bAt_one, bAt_hot hp, ← Int.add_emod_right, show -1 - ((n - 1 : Nat) : Int) + n = 0 by omega, Int.zero_emod] at q
        exact absurd q (by decide)
    rcases h4 with ⟨_, rfl⟩ | ⟨h5, _⟩
    · show s + ((0 : Int) - l) = _
      omega
    · exact absurd h5 (Nat.not_lt_zero _)
/-- .. below, none above -/
theorem form_down {s : Int} {n : Nat} (hn : 1 < n) {F : Form} (h : OneForm s (hot n 0) [] [false] F) : F.1 = s - (n - 1) := by
  have hp : 0 < n := by omega
  unfold OneForm at h
  rw [take_one, lstep_hot hp, List.take_of_length_le (by rw [hot_length]; exact Nat.le_refl _)] at h
  rcases h with ⟨h1, _⟩ | ⟨_, l, ⟨h2, h3⟩, h4⟩
  · have z := congrArg List.length h1
    rw [rol_length, hot_length] at z
    simp at z
    omega
  · have el : l = n - 1 := by
      rcases Nat.lt_trichotomy l (n - 1) with z | z | z
      · unfold pieceB at h3
        rw [if_pos (by show (0 : Int) - 1 - l < 0; omega), bAt_one, bAt_hot hp, ← Int.add_emod_right, show (([] : Row).length : Int) - 1 - l + n = n - 1 - l by show (0 : Int) - 1 - l + n = n - 1 - l; omega, Int.emod_eq_of_lt (by omega) (by omega), decide_eq_false (by omega)] at h3
        exact absurd rfl h3
      · exact z
      · have q := h2 (n - 1) z
        unfold pieceB at q
        rw [if_pos (by show (0 : Int) - 1 - ((n - 1 : Nat) : Int) < 0; omega), bAt_one, bAt_hot hp, ← Int.add_emod_right, show (([] : Row).length : Int) - 1 - ((n - 1 : Nat) : Int) + n = 0 by show (0 : Int) - 1 - ((n - 1 : Nat) : Int) + n = 0; omega, Int.zero_emod] at q
        exact absurd q (by decide)
    rcases h4 with ⟨_, rfl⟩ | ⟨h5, _⟩
    · show s + ((0 : Int) - l) = _
      omega
    · exact absurd h5 (Nat.not_lt_zero _)
end Rk
set_option maxHeartbeats 4000000
/-! The text by places: each def and its slots (printed by gen_names.py). -/
namespace Rk
open PySem PySem.Spec PyProof.Rows L2
def top (i : Nat) : Stmt := PySem.Challenge.pw_anylead_k20_whole_makers_and_limits_of_s.main.body.getD i (.Pass ⟨0, 0, 0, 0⟩)
abbrev s_BadNumber_init : Stmt := inClass (top 3) 0
abbrev n_BadNumber_init : List Str := ["self", "what", "value"]
theorem c_BadNumber_init : FnScope n_BadNumber_init ["self", "what", "value"] (defScope s_BadNumber_init) := ⟨rfl, rfl, rfl, by decide +kernel, rfl, by decide +kernel, by decide +kernel⟩
abbrev s_BadRow_init : Stmt := inClass (top 5) 0
abbrev n_BadRow_init : List Str := ["self", "value"]
theorem c_BadRow_init : FnScope n_BadRow_init ["self", "value"] (defScope s_BadRow_init) := ⟨rfl, rfl, rfl, by decide +kernel, rfl, by decide +kernel, by decide +kernel⟩
abbrev s_TooMany_init : Stmt := inClass (top 7) 0
abbrev n_TooMany_init : List Str := ["self", "what", "limit"]
theorem c_TooMany_init : FnScope n_TooMany_init ["self", "what", "limit"] (defScope s_TooMany_init) := ⟨rfl, rfl, rfl, by decide +kernel, rfl, by decide +kernel, by decide +kernel⟩
abbrev s_is_int : Stmt := top 9
abbrev n_is_int : List Str := ["value"]
theorem c_is_int : FnScope n_is_int ["value"] (defScope s_is_int) := ⟨rfl, rfl, rfl, by decide +kernel, rfl, by decide +kernel, by decide +kernel⟩
abbrev s_is_row : Stmt := top 10
abbrev n_is_row : List Str := ["value"]
theorem c_is_row : FnScope n_is_row ["value"] (defScope s_is_row) := ⟨rfl, rfl, rfl, by decide +kernel, rfl, by decide +kernel, by decide +kernel⟩
abbrev s_check_int : Stmt := top 11
abbrev n_check_int : List Str := ["what", "value"]
theorem c_check_int : FnScope n_check_int ["what", "value"] (defScope s_check_int) := ⟨rfl, rfl, rfl, by decide +kernel, rfl, by decide +kernel, by decide +kernel⟩
abbrev s_greatest_divisor : Stmt := top 13
abbrev n_greatest_divisor : List Str := ["one", "other"]
theorem c_greatest_divisor : FnScope n_greatest_divisor ["one", "other"] (defScope s_greatest_divisor) := ⟨rfl, rfl, rfl, by decide +kernel, rfl, by decide +kernel, by decide +kernel⟩
abbrev s_common_multiple : Stmt := top 14
abbrev n_common_multiple : List Str := ["one", "other"]
theorem c_common_multiple : FnScope n_common_multiple ["one", "other"] (defScope s_common_multiple) := ⟨rfl, rfl, rfl, by decide +kernel, rfl, by decide +kernel, by decide +kernel⟩
abbrev s_least_step : Stmt := top 15
abbrev n_least_step : List Str := ["row", "step"]
theorem c_least_step : FnScope n_least_step ["row"] (defScope s_least_step) := ⟨rfl, rfl, rfl, by decide +kernel, rfl, by decide +kernel, by decide +kernel⟩
abbrev s_rolled : Stmt := top 16
abbrev n_rolled : List Str := ["row", "by", "at"]
theorem c_rolled : FnScope n_rolled ["row", "by"] (defScope s_rolled) := ⟨rfl, rfl, rfl, by decide +kernel, rfl, by decide +kernel, by decide +kernel⟩
abbrev s_piece : Stmt := top 17
abbrev n_piece : List Str := ["below", "middle", "at"]
theorem c_piece : FnScope n_piece ["below", "middle", "at"] (defScope s_piece) := ⟨rfl, rfl, rfl, by decide +kernel, rfl, by decide +kernel, by decide +kernel⟩
abbrev s_is_member : Stmt := top 18
abbrev n_is_member : List Str := ["start", "below", "middle", "above", "n", "at"]
theorem c_is_member : FnScope n_is_member ["start", "below", "middle", "above", "n"] (defScope s_is_member) := ⟨rfl, rfl, rfl, by decide +kernel, rfl, by decide +kernel, by decide +kernel⟩
abbrev s_one_form : Stmt := top 19
abbrev n_one_form : List Str := ["start", "below", "middle", "above", "word", "at", "truth"]
theorem c_one_form : FnScope n_one_form ["start", "below", "middle", "above"] (defScope s_one_form) := ⟨rfl, rfl, rfl, by decide +kernel, rfl, by decide +kernel, by decide +kernel⟩
abbrev s_least_middle : Stmt := top 20
abbrev n_least_middle : List Str := ["start", "below", "middle", "above", "lower", "left", "higher"]
theorem c_least_middle : FnScope n_least_middle ["start", "below", "middle", "above"] (defScope s_least_middle) := ⟨rfl, rfl, rfl, by decide +kernel, rfl, by decide +kernel, by decide +kernel⟩
abbrev s_is_truths : Stmt := top 32
abbrev n_is_truths : List Str := ["value", "item"]
theorem c_is_truths : FnScope n_is_truths ["value"] (defScope s_is_truths) := ⟨rfl, rfl, rfl, by decide +kernel, rfl, by decide +kernel, by decide +kernel⟩
abbrev s_R_init : Stmt := inClass (top 33) 0
abbrev n_R_init : List Str := ["self", "start", "below", "middle", "above", "form"]
theorem c_R_init : FnScope n_R_init ["self", "start", "below", "middle", "above"] (defScope s_R_init) := ⟨rfl, rfl, rfl, by decide +kernel, rfl, by decide +kernel, by decide +kernel⟩
abbrev s_R_is_throughout : Stmt := inClass (top 33) 1
abbrev n_R_is_throughout : List Str := ["self"]
theorem c_R_is_throughout : FnScope n_R_is_throughout ["self"] (defScope s_R_is_throughout) := ⟨rfl, rfl, rfl, by decide +kernel, rfl, by decide +kernel, by decide +kernel⟩
abbrev s_R_contains : Stmt := inClass (top 33) 3
abbrev n_R_contains : List Str := ["self", "n"]
theorem c_R_contains : FnScope n_R_contains ["self", "n"] (defScope s_R_contains) := ⟨rfl, rfl, rfl, by decide +kernel, rfl, by decide +kernel, by decide +kernel⟩
abbrev s_R_bool : Stmt := inClass (top 33) 4
abbrev n_R_bool : List Str := ["self"]
theorem c_R_bool : FnScope n_R_bool ["self"] (defScope s_R_bool) := ⟨rfl, rfl, rfl, by decide +kernel, rfl, by decide +kernel, by decide +kernel⟩
abbrev s_R_and : Stmt := inClass (top 33) 5
abbrev n_R_and : List Str := ["self", "other"]
theorem c_R_and : FnScope n_R_and ["self", "other"] (defScope s_R_and) := ⟨rfl, rfl, rfl, by decide +kernel, rfl, by decide +kernel, by decide +kernel⟩
abbrev s_R_or : Stmt := inClass (top 33) 6
abbrev n_R_or : List Str := ["self", "other"]
theorem c_R_or : FnScope n_R_or ["self", "other"] (defScope s_R_or) := ⟨rfl, rfl, rfl, by decide +kernel, rfl, by decide +kernel, by decide +kernel⟩
abbrev s_R_sub : Stmt := inClass (top 33) 8
abbrev n_R_sub : List Str := ["self", "other"]
theorem c_R_sub : FnScope n_R_sub ["self", "other"] (defScope s_R_sub) := ⟨rfl, rfl, rfl, by decide +kernel, rfl, by decide +kernel, by decide +kernel⟩
abbrev s_R_invert : Stmt := inClass (top 33) 9
abbrev n_R_invert : List Str := ["self", "rows", "row", "truth"]
theorem c_R_invert : FnScope n_R_invert ["self"] (defScope s_R_invert) := ⟨rfl, rfl, rfl, by decide +kernel, rfl, by decide +kernel, by decide +kernel⟩
abbrev s_R_neg : Stmt := inClass (top 33) 10
abbrev n_R_neg : List Str := ["self"]
theorem c_R_neg : FnScope n_R_neg ["self"] (defScope s_R_neg) := ⟨rfl, rfl, rfl, by decide +kernel, rfl, by decide +kernel, by decide +kernel⟩
abbrev s_R_within : Stmt := inClass (top 33) 12
abbrev n_R_within : List Str := ["self", "other"]
theorem c_R_within : FnScope n_R_within ["self", "other"] (defScope s_R_within) := ⟨rfl, rfl, rfl, by decide +kernel, rfl, by decide +kernel, by decide +kernel⟩
abbrev s_R_apart : Stmt := inClass (top 33) 13
abbrev n_R_apart : List Str := ["self", "other"]
theorem c_R_apart : FnScope n_R_apart ["self", "other"] (defScope s_R_apart) := ⟨rfl, rfl, rfl, by decide +kernel, rfl, by decide +kernel, by decide +kernel⟩
abbrev s_R_spread : Stmt := inClass (top 33) 25
abbrev n_R_spread : List Str := ["self", "k", "r", "rows", "row"]
theorem c_R_spread : FnScope n_R_spread ["self", "k", "r"] (defScope s_R_spread) := ⟨rfl, rfl, rfl, by decide +kernel, rfl, by decide +kernel, by decide +kernel⟩
abbrev s_end_of : Stmt := top 34
abbrev n_end_of : List Str := ["one"]
theorem c_end_of : FnScope n_end_of ["one"] (defScope s_end_of) := ⟨rfl, rfl, rfl, by decide +kernel, rfl, by decide +kernel, by decide +kernel⟩
abbrev s_spread_row : Stmt := top 35
abbrev n_spread_row : List Str := ["row", "k", "at"]
theorem c_spread_row : FnScope n_spread_row ["row", "k"] (defScope s_spread_row) := ⟨rfl, rfl, rfl, by decide +kernel, rfl, by decide +kernel, by decide +kernel⟩
abbrev s_mixed_row : Stmt := top 36
abbrev n_mixed_row : List Str := ["one", "other", "first", "many", "table", "n"]
theorem c_mixed_row : FnScope n_mixed_row ["one", "other", "first", "many", "table"] (defScope s_mixed_row) := ⟨rfl, rfl, rfl, by decide +kernel, rfl, by decide +kernel, by decide +kernel⟩
abbrev s_joint_bounds : Stmt := top 37
abbrev n_joint_bounds : List Str := ["one", "other"]
theorem c_joint_bounds : FnScope n_joint_bounds ["one", "other"] (defScope s_joint_bounds) := ⟨rfl, rfl, rfl, by decide +kernel, rfl, by decide +kernel, by decide +kernel⟩
abbrev s_combined : Stmt := top 38
abbrev n_combined : List Str := ["one", "other", "table", "below", "above", "start", "end"]
theorem c_combined : FnScope n_combined ["one", "other", "table"] (defScope s_combined) := ⟨rfl, rfl, rfl, by decide +kernel, rfl, by decide +kernel, by decide +kernel⟩
abbrev s_none : Stmt := top 39
abbrev n_none : List Str := []
theorem c_none : FnScope n_none [] (defScope s_none) := ⟨rfl, rfl, rfl, by decide +kernel, rfl, by decide +kernel, by decide +kernel⟩
abbrev s_all_counts : Stmt := top 40
abbrev n_all_counts : List Str := []
theorem c_all_counts : FnScope n_all_counts [] (defScope s_all_counts) := ⟨rfl, rfl, rfl, by decide +kernel, rfl, by decide +kernel, by decide +kernel⟩
abbrev s_just : Stmt := top 41
abbrev n_just : List Str := ["n"]
theorem c_just : FnScope n_just ["n"] (defScope s_just) := ⟨rfl, rfl, rfl, by decide +kernel, rfl, by decide +kernel, by decide +kernel⟩
abbrev s_at_least : Stmt := top 42
abbrev n_at_least : List Str := ["n"]
theorem c_at_least : FnScope n_at_least ["n"] (defScope s_at_least) := ⟨rfl, rfl, rfl, by decide +kernel, rfl, by decide +kernel, by decide +kernel⟩
abbrev s_at_most : Stmt := top 43
abbrev n_at_most : List Str := ["n"]
theorem c_at_most : FnScope n_at_most ["n"] (defScope s_at_most) := ⟨rfl, rfl, rfl, by decide +kernel, rfl, by decide +kernel, by decide +kernel⟩
abbrev s_between : Stmt := top 44
abbrev n_between : List Str := ["low", "high", "many"]
theorem c_between : FnScope n_between ["low", "high"] (defScope s_between) := ⟨rfl, rfl, rfl, by decide +kernel, rfl, by decide +kernel, by decide +kernel⟩
abbrev s_every : Stmt := top 45
abbrev n_every : List Str := ["m", "r", "word", "at"]
theorem c_every : FnScope n_every ["m", "r"] (defScope s_every) := ⟨rfl, rfl, rfl, by decide +kernel, rfl, by decide +kernel, by decide +kernel⟩
abbrev s_listed : Stmt := top 46
abbrev n_listed : List Str := ["row", "low", "high", "truths", "item"]
theorem c_listed : FnScope n_listed ["row"] (defScope s_listed) := ⟨rfl, rfl, rfl, by decide +kernel, rfl, by decide +kernel, by decide +kernel⟩
abbrev s_reach : Stmt := top 48
abbrev n_reach : List Str := ["one", "other"]
theorem c_reach : FnScope n_reach ["one", "other"] (defScope s_reach) := ⟨rfl, rfl, rfl, by decide +kernel, rfl, by decide +kernel, by decide +kernel⟩
abbrev s_sums : Stmt := top 49
abbrev n_sums : List Str := ["one", "other", "below", "above", "start", "end", "first", "truths", "left", "right"]
theorem c_sums : FnScope n_sums ["one", "other"] (defScope s_sums) := ⟨rfl, rfl, rfl, by decide +kernel, rfl, by decide +kernel, by decide +kernel⟩
abbrev s_shifts : Stmt := top 54
abbrev n_shifts : List Str := ["one", "other"]
theorem c_shifts : FnScope n_shifts ["one", "other"] (defScope s_shifts) := ⟨rfl, rfl, rfl, by decide +kernel, rfl, by decide +kernel, by decide +kernel⟩
abbrev s_law_pen : Stmt := top 56
abbrev n_law_pen : List Str := ["_law_script", "_law_fold", "_law_cell"]
theorem c_law_pen : FnScope n_law_pen ["_law_script"] (defScope s_law_pen) := ⟨rfl, rfl, rfl, by decide +kernel, rfl, by decide +kernel, by decide +kernel⟩
abbrev s_law_draw : Stmt := top 57
abbrev n_law_draw : List Str := ["_law_pen_here", "_law_many", "_law_cell", "_law_digit", "_law_mixed"]
theorem c_law_draw : FnScope n_law_draw ["_law_pen_here", "_law_many"] (defScope s_law_draw) := ⟨rfl, rfl, rfl, by decide +kernel, rfl, by decide +kernel, by decide +kernel⟩
abbrev s_law_pick : Stmt := top 58
abbrev n_law_pick : List Str := ["_law_pen_here", "_law_some"]
theorem c_law_pick : FnScope n_law_pick ["_law_pen_here", "_law_some"] (defScope s_law_pick) := ⟨rfl, rfl, rfl, by decide +kernel, rfl, by decide +kernel, by decide +kernel⟩
abbrev s_law_far : Stmt := top 59
abbrev n_law_far : List Str := ["_law_pen_here", "_law_sign", "_law_many", "_law_far_here", "_law_lap"]
theorem c_law_far : FnScope n_law_far ["_law_pen_here"] (defScope s_law_far) := ⟨rfl, rfl, rfl, by decide +kernel, rfl, by decide +kernel, by decide +kernel⟩
abbrev s_law_is_int : Stmt := top 60
abbrev n_law_is_int : List Str := ["_law_value"]
theorem c_law_is_int : FnScope n_law_is_int ["_law_value"] (defScope s_law_is_int) := ⟨rfl, rfl, rfl, by decide +kernel, rfl, by decide +kernel, by decide +kernel⟩
abbrev s_law_listed : Stmt := top 61
abbrev n_law_listed : List Str := ["_law_pen_here", "_law_row"]
theorem c_law_listed : FnScope n_law_listed ["_law_pen_here", "_law_row"] (defScope s_law_listed) := ⟨rfl, rfl, rfl, by decide +kernel, rfl, by decide +kernel, by decide +kernel⟩
abbrev s_law_has : Stmt := top 62
abbrev n_law_has : List Str := ["_law_told_here", "_law_n", "_law_start", "_law_below", "_law_middle", "_law_above"]
theorem c_law_has : FnScope n_law_has ["_law_told_here", "_law_n"] (defScope s_law_has) := ⟨rfl, rfl, rfl, by decide +kernel, rfl, by decide +kernel, by decide +kernel⟩
abbrev s_law_end : Stmt := top 63
abbrev n_law_end : List Str := ["_law_told_here"]
theorem c_law_end : FnScope n_law_end ["_law_told_here"] (defScope s_law_end) := ⟨rfl, rfl, rfl, by decide +kernel, rfl, by decide +kernel, by decide +kernel⟩
abbrev s_law_described : Stmt := top 64
abbrev n_law_described : List Str := ["_law_fun", "_law_start", "_law_low_step", "_law_end_here", "_law_high_step", "_law_below", "_law_middle", "_law_n"]
theorem c_law_described : FnScope n_law_described ["_law_fun", "_law_start", "_law_low_step", "_law_end_here", "_law_high_step"] (defScope s_law_described) := ⟨rfl, rfl, rfl, by decide +kernel, rfl, by decide +kernel, by decide +kernel⟩
abbrev s_law_step_of : Stmt := top 65
abbrev n_law_step_of : List Str := ["_law_row", "_law_step", "_law_at"]
theorem c_law_step_of : FnScope n_law_step_of ["_law_row"] (defScope s_law_step_of) := ⟨rfl, rfl, rfl, by decide +kernel, rfl, by decide +kernel, by decide +kernel⟩
abbrev s_law_form : Stmt := top 66
abbrev n_law_form : List Str := ["_law_told_here", "_law_high", "_law_low", "_law_end_here", "_law_far_here", "_law_word", "_law_lap", "_law_start", "_law_n"]
theorem c_law_form : FnScope n_law_form ["_law_told_here"] (defScope s_law_form) := ⟨rfl, rfl, rfl, by decide +kernel, rfl, by decide +kernel, by decide +kernel⟩
abbrev s_law_told : Stmt := top 67
abbrev n_law_told : List Str := ["_law_one"]
theorem c_law_told : FnScope n_law_told ["_law_one"] (defScope s_law_told) := ⟨rfl, rfl, rfl, by decide +kernel, rfl, by decide +kernel, by decide +kernel⟩
abbrev s_law_is_one_form : Stmt := top 68
abbrev n_law_is_one_form : List Str := ["_law_one", "_law_told_here", "_law_row"]
theorem c_law_is_one_form : FnScope n_law_is_one_form ["_law_one", "_law_told_here"] (defScope s_law_is_one_form) := ⟨rfl, rfl, rfl, by decide +kernel, rfl, by decide +kernel, by decide +kernel⟩
abbrev s_law_odd_items : Stmt := top 69
abbrev n_law_odd_items : List Str := ["_law_row", "_law_item"]
theorem c_law_odd_items : FnScope n_law_odd_items ["_law_row"] (defScope s_law_odd_items) := ⟨rfl, rfl, rfl, by decide +kernel, rfl, by decide +kernel, by decide +kernel⟩
abbrev s_law_why : Stmt := top 70
abbrev n_law_why : List Str := ["_law_call", "e"]
theorem c_law_why : FnScope n_law_why ["_law_call"] (defScope s_law_why) := ⟨rfl, rfl, rfl, by decide +kernel, rfl, by decide +kernel, by decide +kernel⟩
abbrev s_law_whys : Stmt := top 71
abbrev n_law_whys : List Str := ["_law_calls", "_law_due_here", "_law_call"]
theorem c_law_whys : FnScope n_law_whys ["_law_calls", "_law_due_here"] (defScope s_law_whys) := ⟨rfl, rfl, rfl, by decide +kernel, rfl, by decide +kernel, by decide +kernel⟩
abbrev s_law_odd : Stmt := top 72
abbrev n_law_odd : List Str := ["_law_pen_here"]
theorem c_law_odd : FnScope n_law_odd ["_law_pen_here"] (defScope s_law_odd) := ⟨rfl, rfl, rfl, by decide +kernel, rfl, by decide +kernel, by decide +kernel⟩
abbrev s_law_number : Stmt := top 73
abbrev n_law_number : List Str := ["_law_pen_here"]
theorem c_law_number : FnScope n_law_number ["_law_pen_here"] (defScope s_law_number) := ⟨rfl, rfl, rfl, by decide +kernel, rfl, by decide +kernel, by decide +kernel⟩
abbrev s_law_makes : Stmt := top 74
abbrev n_law_makes : List Str := ["_law_pen_here", "_law_n", "_law_m", "_law_r", "_law_high", "_law_row", "_law_passed", "_law_word", "_law_low", "_law_truths", "_law_pairs", "_law_one", "_law_due_here", "_law_k"]
theorem c_law_makes : FnScope n_law_makes ["_law_pen_here"] (defScope s_law_makes) := ⟨rfl, rfl, rfl, by decide +kernel, rfl, by decide +kernel, by decide +kernel⟩
abbrev s_law_refuses : Stmt := top 75
abbrev n_law_refuses : List Str := ["_law_pen_here", "_law_n", "_law_m", "_law_odd_here", "_law_due_here", "_law_calls", "_law_row"]
theorem c_law_refuses : FnScope n_law_refuses ["_law_pen_here"] (defScope s_law_refuses) := ⟨rfl, rfl, rfl, by decide +kernel, rfl, by decide +kernel, by decide +kernel⟩
abbrev s_law_ranges : Stmt := top 76
abbrev n_law_ranges : List Str := ["_law_pen_here", "_law_n", "_law_more", "_law_due_here", "_law_one", "_law_other", "_law_calls", "_law_wide"]
theorem c_law_ranges : FnScope n_law_ranges ["_law_pen_here"] (defScope s_law_ranges) := ⟨rfl, rfl, rfl, by decide +kernel, rfl, by decide +kernel, by decide +kernel⟩
abbrev s_law_due : Stmt := top 77
abbrev n_law_due : List Str := ["_law_many"]
theorem c_law_due : FnScope n_law_due ["_law_many"] (defScope s_law_due) := ⟨rfl, rfl, rfl, by decide +kernel, rfl, by decide +kernel, by decide +kernel⟩
abbrev s_law_steps : Stmt := top 78
abbrev n_law_steps : List Str := ["_law_pen_here", "_law_way", "_law_one", "_law_other", "_law_least", "_law_a", "_law_b", "_law_some", "_law_more", "_law_calls", "_law_k"]
theorem c_law_steps : FnScope n_law_steps ["_law_pen_here", "_law_way"] (defScope s_law_steps) := ⟨rfl, rfl, rfl, by decide +kernel, rfl, by decide +kernel, by decide +kernel⟩
abbrev s_law_middles : Stmt := top 79
abbrev n_law_middles : List Str := ["_law_pen_here", "_law_length", "_law_one", "_law_due_here", "_law_k", "_law_wide", "_law_calls"]
theorem c_law_middles : FnScope n_law_middles ["_law_pen_here"] (defScope s_law_middles) := ⟨rfl, rfl, rfl, by decide +kernel, rfl, by decide +kernel, by decide +kernel⟩
abbrev s_law : Stmt := top 80
abbrev n_law : List Str := ["_law_script", "_law_pen_here", "_law_way"]
theorem c_law : FnScope n_law ["_law_script"] (defScope s_law) := ⟨rfl, rfl, rfl, by decide +kernel, rfl, by decide +kernel, by decide +kernel⟩
end Rk
set_option maxHeartbeats 4000000
/-! The program's defs, first part: checks, errors, steps and pieces. -/
namespace Rk
open PySem PySem.Spec PyProof.Rows L2

/-- built-ins that the module has not taken the names of -/
structure Tx (K : PySem.W.Frag) (mg : Str → Option Value) : Prop where
  len : mg "len" = none
  abs : mg "abs" = none
  max : mg "max" = none
  min : mg "min" = none
  all : mg "all" = none
  any : mg "any" = none
  enumerate : mg "enumerate" = none
  range : mg "range" = none
  tuple : mg "tuple" = none
  list : mg "list" = none
  isinstance : mg "isinstance" = none
  int : mg "int" = none
  bool : mg "bool" = none
  repr : mg "repr" = none
/-- the module's name x holds the def st -/
structure Has (K : PySem.W.Frag) (mg : Str → Option Value) (x : Str) (st : Stmt) : Prop where
  ex : ∃ (f : Addr) (fd : FuncData), FunD K x x (defArgs st) (defBody st) (defScope st) [] [] f fd ∧ mg x = some (.ref f)
/-- the class at C holds the def st as its m -/
structure HasM (K : PySem.W.Frag) (C : Addr) (m qual : Str) (st : Stmt) : Prop where
  ex : ∃ (f : Addr) (fd : FuncData), FunD K m qual (defArgs st) (defBody st) (defScope st) [] [] f fd ∧ Meth K C m f
/-- .. as its __init__, and is made by it -/
structure HasI (K : PySem.W.Frag) (mg : Str → Option Value) (x : Str) (C : Addr) (qual : Str) (st : Stmt) : Prop where
  ex : ∃ (f : Addr) (fd : FuncData), FunD K "__init__" qual (defArgs st) (defBody st) (defScope st) [] [] f fd ∧ Mk K C f ∧ mg x = some (.ref C)
abbrev BindsOk (x qual : Str) (st : Stmt) (ps : List Str) : Prop := ∀ (kV doc pm : Value) (an : Option Addr) (cdv ct : Value) (us : List Value), us.length = ps.length →
  bindArgs (PySem.W.fnOf x qual (defArgs st) (defBody st) (defScope st) .none kV doc pm an cdv ct) ⟨us, []⟩ = pure (ps.zip us)
abbrev LenOk (ps : List Str) (sp : Sp) : Prop := ∀ vs H Q E, sp vs H Q E → vs.length = ps.length
/-- the body's term and its reading, at any state -/
abbrev BodyOk (P : Program) (w : World) (K : PySem.W.Frag) (mg : Str → Option Value) (base : Heap) (k : Nat) (qual : Str) (st : Stmt) (N : List Str) (sp : Sp) (f : Addr) : Prop :=
  ∀ (cdv : Value) (A : Around) (outer : List Env) (s : Shared) (H : Hp) (vs : List V) (Q : VK) (E : XK), Room k (A.deeper (envOfC qual (defScope st) s.heap.objs.size f cdv)) → sp vs H Q E →
      ∃ t, PSs (cxOf (L2.CX P w) P w K mg base N qual (defScope st) f cdv A outer s H E) (defBody st) t ∧ t { nx := fun _ H' => Q .non H', rt := Q } (L2.start N vs) H
abbrev BodyOkG (P : Program) (w : World) (K : PySem.W.Frag) (mg : Str → Option Value) (base : Heap) (k : Nat) (qual : Str) (st : Stmt) (N : List Str) (sp : Sp) (f : Addr) (fd : FuncData) : Prop :=
  ∀ (cdv : Value) (A : Around) (outer : List Env) (s : Shared) (H : Hp) (vs : List V) (Q : VK) (E : XK), fd.code = cdv → Room k (A.deeper (envOfC qual (defScope st) s.heap.objs.size f cdv)) → (A.deeper (envOfC qual (defScope st) s.heap.objs.size f cdv)).guards = some [] → sp vs H Q E →
      ∃ t, PSs (cxOf (L2.CX P w) P w K mg base N qual (defScope st) f cdv A outer s H E) (defBody st) t ∧ t { nx := fun _ H' => Q .non H', rt := Q } (L2.start N vs) H
section
variable {P : Program} {w : World} {K : PySem.W.Frag} {mg : Str → Option Value} {base : Heap} {x qual m : Str} {st : Stmt} {N ps : List Str} {k : Nat} {sp : Sp} {C : Addr}
theorem Has.df (h : Has K mg x st) (S : FnScope N ps (defScope st)) (hb : BindsOk x x st ps) (len : LenOk ps sp) (body : ∀ f, BodyOk P w K mg base k x st N sp f) : Df P w K mg base (k + 1) x ps sp := by
  obtain ⟨f, fd, F, hm⟩ := h.ex
  exact ⟨f, fd, F.ok S len (body f), hm, F.kp, F.bindsN hb⟩
theorem HasM.md (h : HasM K C m qual st) (S : FnScope N ps (defScope st)) (hb : BindsOk m qual st ps) (len : LenOk ps sp) (body : ∀ f, BodyOk P w K mg base k qual st N sp f) : Md P w K mg base C (k + 1) m ps sp := by
  obtain ⟨f, fd, F, hm⟩ := h.ex
  exact ⟨f, fd, hm, F.ok S len (body f), F.bindsN hb⟩
theorem HasI.ck (h : HasI K mg x C qual st) (S : FnScope N ps (defScope st)) (hb : BindsOk "__init__" qual st ps) (len : LenOk ps sp) (body : ∀ f, BodyOk P w K mg base k qual st N sp f) : Ck P w K mg base x C (k + 1) ps sp := by
  obtain ⟨f, fd, F, hk, hm⟩ := h.ex
  exact ⟨f, fd, hk, F.ok S len (body f), hm, F.bindsN hb⟩
end

/-! ### is_int, is_row -/
def isI : PyData → Bool
  | .int _ => true
  | _ => false
def isRowD : PyData → Bool
  | .list _ => true
  | .tuple _ => true
  | _ => false
def spIsInt (K : PySem.W.Frag) : Sp := fun vs H Q _ => ∃ v d, vs = [v] ∧ Dp K H v d ∧ Q (.bl (isI d)) H
def spIsRow (K : PySem.W.Frag) : Sp := fun vs H Q _ => ∃ v d, vs = [v] ∧ Dp K H v d ∧ ∀ H', Same H H' → Q (.bl (isRowD d)) H'
def intK : PyData → Bool
  | .bool _ => true
  | .int _ => true
  | _ => false
theorem kit_int {K : PySem.W.Frag} : ∀ d : PyData, PySem.W.kitOne K (.type (tynD d)) (.type "int") = some (intK d)
  | .none => kit_ty (a := "NoneType") (b := "int") (r := false) (by decide +kernel)
  | .bool _ => kit_ty (a := "bool") (b := "int") (r := true) (by decide +kernel)
  | .int _ => kit_ty (a := "int") (b := "int") (r := true) (by decide +kernel)
  | .str _ => kit_ty (a := "str") (b := "int") (r := false) (by decide +kernel)
  | .list _ => kit_ty (a := "list") (b := "int") (r := false) (by decide +kernel)
  | .tuple _ => kit_ty (a := "tuple") (b := "int") (r := false) (by decide +kernel)
  | .dict _ => kit_ty (a := "dict") (b := "int") (r := false) (by decide +kernel)
def boolK : PyData → Bool
  | .bool _ => true
  | _ => false
theorem kit_bool {K : PySem.W.Frag} : ∀ d : PyData, PySem.W.kitOne K (.type (tynD d)) (.type "bool") = some (boolK d)
  | .none => kit_ty (a := "NoneType") (b := "bool") (r := false) (by decide +kernel)
  | .bool _ => kit_ty (a := "bool") (b := "bool") (r := true) (by decide +kernel)
  | .int _ => kit_ty (a := "int") (b := "bool") (r := false) (by decide +kernel)
  | .str _ => kit_ty (a := "str") (b := "bool") (r := false) (by decide +kernel)
  | .list _ => kit_ty (a := "list") (b := "bool") (r := false) (by decide +kernel)
  | .tuple _ => kit_ty (a := "tuple") (b := "bool") (r := false) (by decide +kernel)
  | .dict _ => kit_ty (a := "dict") (b := "bool") (r := false) (by decide +kernel)
def tupK : PyData → Bool
  | .tuple _ => true
  | _ => false
theorem kit_tup {K : PySem.W.Frag} : ∀ d : PyData, PySem.W.kitOne K (.type (tynD d)) (.type "tuple") = some (tupK d)
  | .none => kit_ty (a := "NoneType") (b := "tuple") (r := false) (by decide +kernel)
  | .bool _ => kit_ty (a := "bool") (b := "tuple") (r := false) (by decide +kernel)
  | .int _ => kit_ty (a := "int") (b := "tuple") (r := false) (by decide +kernel)
  | .str _ => kit_ty (a := "str") (b := "tuple") (r := false) (by decide +kernel)
  | .list _ => kit_ty (a := "list") (b := "tuple") (r := false) (by decide +kernel)
  | .tuple _ => kit_ty (a := "tuple") (b := "tuple") (r := true) (by decide +kernel)
  | .dict _ => kit_ty (a := "dict") (b := "tuple") (r := false) (by decide +kernel)
def lstK : PyData → Bool
  | .list _ => true
  | _ => false
theorem kit_lst {K : PySem.W.Frag} : ∀ d : PyData, PySem.W.kitOne K (.type (tynD d)) (.type "list") = some (lstK d)
  | .none => kit_ty (a := "NoneType") (b := "list") (r := false) (by decide +kernel)
  | .bool _ => kit_ty (a := "bool") (b := "list") (r := false) (by decide +kernel)
  | .int _ => kit_ty (a := "int") (b := "list") (r := false) (by decide +kernel)
  | .str _ => kit_ty (a := "str") (b := "list") (r := false) (by decide +kernel)
  | .list _ => kit_ty (a := "list") (b := "list") (r := true) (by decide +kernel)
  | .tuple _ => kit_ty (a := "tuple") (b := "list") (r := false) (by decide +kernel)
  | .dict _ => kit_ty (a := "dict") (b := "list") (r := false) (by decide +kernel)
section
variable {P : Program} {w : World} {K : PySem.W.Frag} {mg : Str → Option Value} {base : Heap}
theorem ok_is_int (h : Has K mg "is_int" s_is_int) (T : Tx K mg) : Df P w K mg base 1 "is_int" ["value"] (spIsInt K) := by
  refine h.df c_is_int (fun _ _ _ _ _ _ us hl => match us, hl with | [_], _ => rfl) (fun vs H Q E ⟨v, d, e, _⟩ => by rw [e]; rfl) fun f cdv A outer s H vs Q E hr hs => ?_
  obtain ⟨v, d, rfl, hd, q⟩ := hs
  refine ⟨_, pss_one (ps_ret (pe_and (pe_callB call_isi (by rfl) T.isinstance boot_isinstance (pa_cons (pv 0) (pa_cons (pe_bltn (v := .ty "int") (by rfl) T.int boot_int rfl) pa_nil)))
    (pe_one (pe_not (pe_callB call_isi (by rfl) T.isinstance boot_isinstance (pa_cons (pv 0) (pa_cons (pe_bltn (v := .ty "bool") (by rfl) T.bool boot_bool rfl) pa_nil))))))), ?_⟩
  refine ⟨_, rfl, v, _, _, _, _, rfl, .ty "int", tyx_of hd, kit_int d, _, rfl, ?_⟩
  by_cases hi : intK d = true
  · rw [hi]
    refine iteT ⟨_, rfl, v, _, _, _, _, rfl, .ty "bool", tyx_of hd, kit_bool d, _, rfl, ?_⟩
    cases d <;> first | exact q | cases hi
  · rw [Bool.eq_false_iff.mpr hi]
    refine iteF ?_
    cases d <;> first | exact q | exact absurd rfl hi
theorem ok_is_row (h : Has K mg "is_row" s_is_row) (T : Tx K mg) : Df P w K mg base 1 "is_row" ["value"] (spIsRow K) := by
  refine h.df c_is_row (fun _ _ _ _ _ _ us hl => match us, hl with | [_], _ => rfl) (fun vs H Q E ⟨v, d, e, _⟩ => by rw [e]; rfl) fun f cdv A outer s H vs Q E hr hs => ?_
  obtain ⟨v, d, rfl, hd, q⟩ := hs
  refine ⟨_, pss_one (ps_ret (pe_callB call_isiT (by rfl) T.isinstance boot_isinstance (pa_cons (pv 0) (pa_cons (pe_tup (pa_cons (pe_bltn (v := .ty "tuple") (by rfl) T.tuple boot_tuple rfl) (pa_cons (pe_bltn (v := .ty "list") (by rfl) T.list boot_list rfl) pa_nil))) pa_nil)))), ?_⟩
  refine ⟨_, rfl, (by show 2 ≤ sizeLine; decide), fun p np => ?_⟩
  refine ⟨v, p, _, _, [.type "tuple", .type "list"], isRowD d, rfl, upd_same, .cons (.ty _) (.cons (.ty _) .nil), tyx_of (dp_same hd (same_upd np)), ?_, q _ (same_upd np)⟩
  refine kitAny_cons (kit_tup d) (fun e1 => kitAny_cons (kit_lst d) (fun e2 => ?_) fun e2 => ?_) fun e1 => ?_
  · have : isRowD d = false := by cases d <;> first | rfl | exact absurd (show true = false from e1) (by decide) | exact absurd (show true = false from e2) (by decide)
    rw [this]
    exact kitAny_nil
  · cases d <;> first | rfl | exact absurd (show false = true from e2) (by decide)
  · cases d <;> first | rfl | exact absurd (show false = true from e1) (by decide)

/-! ### the errors -/
/-- an own class of errors over LeadError: mg's x, made by its def st -/
structure ErC (K : PySem.W.Frag) (mg : Str → Option Value) (x : Str) (C : Addr) (qual : Str) (st : Stmt) (fs : List Str) : Prop where
  oex : OexC K C
  xf : XfC K C
  at_ : mg x = some (.ref C)
  ini : ∃ (f : Addr) (fd : FuncData), FunD K "__init__" qual (defArgs st) (defBody st) (defScope st) [] [] f fd ∧ PySem.W.findIn K (.ref C) "__init__" = some (some (.ref f)) ∧ PySem.W.typeIn K (.ref f) = some (.type "function")
  no : ∀ f ∈ fs, PySem.W.findIn K (.ref C) f = some none
structure LdC (K : PySem.W.Frag) (mg : Str → Option Value) (CL : Addr) : Prop where
  c : LeC K CL
  at_ : mg "LeadError" = some (.ref CL)
/-- the promise of an error's __init__: the fields fs stand in its dict -/
def spEr (C : Addr) (n : Nat) (fs : List V → List (Str × V)) : Sp := fun vs H Q _ => ∃ a ws, vs = .ref a :: ws ∧ ws.length = n ∧ H a = some (exo a C none) ∧
  ∀ dx H', H dx = none → dx ≠ a → H' a = some (exo a C (some dx)) → H' dx = some (exd dx (fs ws)) → (∀ b, b ≠ a → b ≠ dx → H' b = H b) → Q .non H'
def fs2 (f g : Str) : List V → List (Str × V)
  | [x, y] => [(g, y), (f, x)]
  | _ => []
def fs1 (f : Str) : List V → List (Str × V)
  | [x] => [(f, x)]
  | _ => []
/-- what is wanted of a raised error of the class at C with the fields fs -/
def Rz (C : Addr) (fs : List (Str × V)) (H : Hp) (E : XK) : Prop := ∀ dx H', Same H H' → H dx = none → H' dx = some (.xd fs) → E (.ref C) (some dx) H'
theorem Rz.same {C : Addr} {fs : List (Str × V)} {H H1 : Hp} {E : XK} (h : Rz C fs H E) (s : Same H H1) : Rz C fs H1 E := fun dx H' s' n e => h dx H' (s.trans s') (s.free n) e
/-- from the init's promise to what is raised -/
theorem rz_make {C : Addr} {n : Nat} {fs : List V → List (Str × V)} {H : Hp} {Q : XK} {ws : List V} (hw : ws.length = n) (hn : n ≤ 1000) (h : Rz C (fs ws) H Q) :
    ws.length ≤ 1000 ∧ ∀ a, H a = none → spEr C n fs (.ref a :: (ws ++ [])) (upd H a (exo a C none)) (fun v H2 => v = .non ∧ ∃ (d : Addr) (gs : List (Str × V)), H2 a = some (exo a C (some d)) ∧ H2 d = some (exd d gs) ∧ H d = none ∧ Q (.ref C) (some d) (upd (del H2 a) d (.xd gs))) (fun _ _ _ => False) := by
  refine ⟨by omega, fun a na => ⟨a, ws, by rw [List.append_nil], hw, upd_same, fun dx H' n1 n2 e1 e2 e3 => ⟨rfl, dx, _, e1, e2, ?_, ?_⟩⟩⟩
  · rw [upd_ne n2] at n1
    exact n1
  · have nd : H dx = none := by
      rw [upd_ne n2] at n1
      exact n1
    refine h dx _ (fun b u e => ?_) nd upd_same
    have b1 : b ≠ a := ne_of_none e na
    have b2 : b ≠ dx := ne_of_none e nd
    rw [upd_ne b2, del_ne b1, e3 b b1 b2, upd_ne b1]
    exact e
/-- what an error's class gives to who makes it -/
structure ErD (P : Program) (w : World) (K : PySem.W.Frag) (mg : Str → Option Value) (base : Heap) (x : Str) (C : Addr) (k : Nat) (ps : List Str) (sp : Sp) : Prop where
  ex : ∃ (f : Addr) (fd : FuncData), FnOk P w K mg base (L2.CX P w) k f fd ps sp ∧ Binds K fd ps [] ∧ PySem.W.findIn K (.ref C) "__init__" = some (some (.ref f)) ∧ PySem.W.typeIn K (.ref f) = some (.type "function")
  oex : OexC K C
  at_ : mg x = some (.ref C)
theorem pmk_er {X : Cx} {x : Str} {C : Addr} {k : Nat} {ps : List Str} {sp : Sp} {e : Expr} {es : List Expr} {ta : TA} {p pos : Pos} (D : ErD X.prog X.w X.K X.mg X.base x C k ps sp) (hr : Room (k + 1) X.A) (hg : Gl X x) (ha : PA X (e :: es) ta)
    (hdb : (x == ("__debug__" : Str)) = false := by decide) (he : starEach (e :: es) X.env = (false, eval e X.env) :: starEach es X.env := by rfl) (hpl : (backTo pos (starEach es X.env)).any (·.1) = false := by rfl) :
    PMk X (.Call (.Name x p) (e :: es) [] pos) (tMkO C sp [] ta) := by
  obtain ⟨f, fd, F, hb, h1, h2⟩ := D.ex
  exact pmk_oex D.oex h1 h2 F hr hb .nil passL hg D.at_ ha hdb he hpl
theorem ok_bn {C CL : Addr} (h : ErC K mg "BadNumber" C "BadNumber.__init__" s_BadNumber_init ["what", "value"]) (L : LdC K mg CL) : ErD P w K mg base "BadNumber" C 1 ["self", "what", "value"] (spEr C 2 (fs2 "what" "value")) := by
  obtain ⟨f, fd, F, h1, h2⟩ := h.ini
  refine ⟨⟨f, fd, F.ok c_BadNumber_init (fun vs H Q E ⟨a, ws, e, hw, _⟩ => by rw [e]; exact congrArg Nat.succ hw) (fun cdv A outer s H vs Q E hr hs => ?_), F.bindsN (fun _ _ _ _ _ _ us hl => match us, hl with | [_, _, _], _ => rfl), h1, h2⟩, h.oex, h.at_⟩
  obtain ⟨a, ws, rfl, hw, ha, q⟩ := hs
  obtain ⟨y, z, rfl⟩ : ∃ y z, ws = [y, z] := by
    match ws, hw with
    | [y, z], _ => exact ⟨y, z, rfl⟩
  refine ⟨_, pss_cons (ps_expr (pe_ldinit (by rfl) L.at_ L.c (pa_cons (pv 0) (pa_cons pe_str pa_nil)))) (pss_cons (ps_ost (pv 0) (pv 1)) (pss_one (ps_ost (pv 0) (pv 2)))), ?_⟩
  refine ⟨_, rfl, a, C, [_], rfl, (by decide), h.oex, ha, _, rfl, _, rfl, a, C, rfl, h.oex, h.no _ (by simp), .inl ⟨ha, fun dx n1 n2 => ?_⟩⟩
  refine ⟨_, rfl, _, rfl, a, C, rfl, h.oex, h.no _ (by simp), .inr ⟨dx, _, upd_same, by rw [upd_ne n2, upd_same], (by show 1 ≤ 900; decide), ?_⟩⟩
  exact q dx _ n1 n2 (by rw [upd_ne n2.symm, upd_same]) upd_same fun b h3 h4 => by rw [upd_ne h4, upd_ne h3, upd_ne h4]
theorem ok_tm {C CL : Addr} (h : ErC K mg "TooMany" C "TooMany.__init__" s_TooMany_init ["what", "limit"]) (L : LdC K mg CL) : ErD P w K mg base "TooMany" C 1 ["self", "what", "limit"] (spEr C 2 (fs2 "what" "limit")) := by
  obtain ⟨f, fd, F, h1, h2⟩ := h.ini
  refine ⟨⟨f, fd, F.ok c_TooMany_init (fun vs H Q E ⟨a, ws, e, hw, _⟩ => by rw [e]; exact congrArg Nat.succ hw) (fun cdv A outer s H vs Q E hr hs => ?_), F.bindsN (fun _ _ _ _ _ _ us hl => match us, hl with | [_, _, _], _ => rfl), h1, h2⟩, h.oex, h.at_⟩
  obtain ⟨a, ws, rfl, hw, ha, q⟩ := hs
  obtain ⟨y, z, rfl⟩ : ∃ y z, ws = [y, z] := by
    match ws, hw with
    | [y, z], _ => exact ⟨y, z, rfl⟩
  refine ⟨_, pss_cons (ps_expr (pe_ldinit (by rfl) L.at_ L.c (pa_cons (pv 0) (pa_cons pe_str pa_nil)))) (pss_cons (ps_ost (pv 0) (pv 1)) (pss_one (ps_ost (pv 0) (pv 2)))), ?_⟩
  refine ⟨_, rfl, a, C, [_], rfl, (by decide), h.oex, ha, _, rfl, _, rfl, a, C, rfl, h.oex, h.no _ (by simp), .inl ⟨ha, fun dx n1 n2 => ?_⟩⟩
  refine ⟨_, rfl, _, rfl, a, C, rfl, h.oex, h.no _ (by simp), .inr ⟨dx, _, upd_same, by rw [upd_ne n2, upd_same], (by show 1 ≤ 900; decide), ?_⟩⟩
  exact q dx _ n1 n2 (by rw [upd_ne n2.symm, upd_same]) upd_same fun b h3 h4 => by rw [upd_ne h4, upd_ne h3, upd_ne h4]
theorem ok_br {C CL : Addr} (h : ErC K mg "BadRow" C "BadRow.__init__" s_BadRow_init ["value"]) (L : LdC K mg CL) : ErD P w K mg base "BadRow" C 1 ["self", "value"] (spEr C 1 (fs1 "value")) := by
  obtain ⟨f, fd, F, h1, h2⟩ := h.ini
  refine ⟨⟨f, fd, F.ok c_BadRow_init (fun vs H Q E ⟨a, ws, e, hw, _⟩ => by rw [e]; exact congrArg Nat.succ hw) (fun cdv A outer s H vs Q E hr hs => ?_), F.bindsN (fun _ _ _ _ _ _ us hl => match us, hl with | [_, _], _ => rfl), h1, h2⟩, h.oex, h.at_⟩
  obtain ⟨a, ws, rfl, hw, ha, q⟩ := hs
  obtain ⟨y, rfl⟩ : ∃ y, ws = [y] := by
    match ws, hw with
    | [y], _ => exact ⟨y, rfl⟩
  refine ⟨_, pss_cons (ps_expr (pe_ldinit (by rfl) L.at_ L.c (pa_cons (pv 0) (pa_cons pe_str pa_nil)))) (pss_one (ps_ost (pv 0) (pv 1))), ?_⟩
  refine ⟨_, rfl, a, C, [_], rfl, (by decide), h.oex, ha, _, rfl, _, rfl, a, C, rfl, h.oex, h.no _ (by simp), .inl ⟨ha, fun dx n1 n2 => ?_⟩⟩
  exact q dx _ n1 n2 upd_same (by rw [upd_ne n2, upd_same]; rfl) fun b h3 h4 => by rw [upd_ne h3, upd_ne h4]

/-! ### check_int -/
def spCheck (K : PySem.W.Frag) (BN : Addr) : Sp := fun vs H Q E => ∃ wh v d, vs = [.str wh, v] ∧ Dp K H v d ∧ (isI d = true → Q .non H) ∧ (isI d = false → Rz BN [("value", v), ("what", .str wh)] H E)
theorem ok_check_int {BN : Addr} (h : Has K mg "check_int" s_check_int) (D : Df P w K mg base 1 "is_int" ["value"] (spIsInt K)) (B : ErD P w K mg base "BadNumber" BN 1 ["self", "what", "value"] (spEr BN 2 (fs2 "what" "value"))) :
    Df P w K mg base 3 "check_int" ["what", "value"] (spCheck K BN) := by
  refine h.df c_check_int (fun _ _ _ _ _ _ us hl => match us, hl with | [_, _], _ => rfl) (fun vs H Q E ⟨wh, v, d, e, _⟩ => by rw [e]; rfl) fun f cdv A outer s H vs Q E hr hs => ?_
  obtain ⟨wh, v, d, rfl, hd, q1, q2⟩ := hs
  refine ⟨_, pss_one (ps_if (pt_not (pt_val (pe_df D (hr.mono (by decide)) passL (by rfl) (pa_cons (pv 1) pa_nil)))) (pss_one (ps_raise rfl (takes_of rfl rfl rfl rfl) (pmk_er B hr (by rfl) (pa_cons (pv 0) (pa_cons (pv 1) pa_nil))))) pss_nil), ?_⟩
  refine ⟨_, rfl, v, d, rfl, hd, _, rfl, ?_⟩
  cases hi : isI d with
  | true => exact iteF (q1 hi)
  | false => exact iteT ⟨_, rfl, _, rfl, rz_make rfl (by decide) (q2 hi)⟩
end
end Rk
set_option maxHeartbeats 4000000
/-! The program's defs, second part: divisors, steps, pieces. -/
namespace Rk
open PySem PySem.Spec PyProof.Rows L2

theorem iteBT {b : Bool} {A B : Prop} (h : b = true) (x : A) : if b = true then A else B := by
  rw [if_pos h]
  exact x
theorem iteBF {b : Bool} {A B : Prop} (h : b = false) (x : B) : if b = true then A else B := by
  rw [if_neg (by rw [h]; exact Bool.false_ne_true)]
  exact x
theorem ne_int {i j : Int} (h : i ≠ j) : (!decide (V.int i = V.int j)) = true := by
  rw [decide_eq_false fun z => h (V.int.inj z)]
  rfl
theorem ne_int' {i j : Int} (h : i = j) : (!decide (V.int i = V.int j)) = false := by
  rw [decide_eq_true (congrArg V.int h)]
  rfl
theorem cut_from (xs : List V) (p : Nat) : cutV xs (some (p : Int)) none = xs.drop p := by
  unfold cutV
  rw [HT.sIx_nat, HT.sIx_none]
  by_cases h : p ≤ xs.length
  · rw [Nat.min_eq_left h, List.take_of_length_le (by rw [List.length_drop]; omega)]
  · rw [Nat.min_eq_right (by omega), List.drop_eq_nil_of_le (Nat.le_refl _), List.drop_eq_nil_of_le (by omega), List.take_nil]
theorem cut_to (xs : List V) (p : Nat) : cutV xs none (some (p : Int)) = xs.take p := by
  unfold cutV
  rw [HT.sIx_nat, HT.sIx_none, List.drop_zero, Nat.sub_zero]
  by_cases h : p ≤ xs.length
  · rw [Nat.min_eq_left h]
  · rw [Nat.min_eq_right (by omega), List.take_length, List.take_of_length_le (by omega)]
theorem cut_mid (xs : List V) (p q : Nat) : cutV xs (some (p : Int)) (some (q : Int)) = (xs.take q).drop p := by
  unfold cutV
  rw [HT.sIx_nat, HT.sIx_nat, List.drop_take]
  by_cases hp : p ≤ xs.length
  · rw [Nat.min_eq_left hp]
    by_cases hq : q ≤ xs.length
    · rw [Nat.min_eq_left hq]
    · rw [Nat.min_eq_right (by omega), List.take_of_length_le (by rw [List.length_drop]; omega), List.take_of_length_le (by rw [List.length_drop]; omega)]
  · rw [Nat.min_eq_right (show xs.length ≤ p by omega), List.drop_eq_nil_of_le (Nat.le_refl _), List.drop_eq_nil_of_le (show xs.length ≤ p by omega), List.take_nil, List.take_nil]
theorem bls_drop (r : Row) (p : Nat) : (bls r).drop p = bls (r.drop p) := (List.map_drop ..).symm
theorem bls_take (r : Row) (p : Nat) : (bls r).take p = bls (r.take p) := (List.map_take ..).symm
theorem bls_app (r t : Row) : bls r ++ bls t = bls (r ++ t) := List.map_append.symm
theorem at_row {r : Row} (h : r ≠ []) (i : Int) : atI (bls r) (i % (r.length : Int)) = some (.bl (bAt r i)) := by
  have h1 := emod_lt h i
  have h0 := Int.emod_nonneg i (Int.ne_of_gt (len_pos h))
  have e : i % (r.length : Int) = (((i % (r.length : Int)).toNat : Nat) : Int) := by omega
  rw [e]
  refine atI_nat ?_
  rw [bls_get, List.getElem?_eq_getElem h1, ← bAt_get h]
  rfl

/-! ### greatest_divisor, common_multiple -/
def spGd : Sp := fun vs H Q _ => ∃ a b : Nat, vs = [.int a, .int b] ∧ Q (.int (Nat.gcd a b : Nat)) H
/-- the least common multiple as it is worked out -/
def cm (a b : Nat) : Nat := a / Nat.gcd a b * b
def spCm : Sp := fun vs H Q _ => ∃ a b : Nat, vs = [.int a, .int b] ∧ 0 < a ∧ a < 1073741824 ∧ Q (.int (cm a b : Nat)) H
section
variable {P : Program} {w : World} {K : PySem.W.Frag} {mg : Str → Option Value} {base : Heap}
theorem ok_gd (h : Has K mg "greatest_divisor" s_greatest_divisor) (T : Tx K mg) : Df P w K mg base 1 "greatest_divisor" ["one", "other"] spGd := by
  refine h.df c_greatest_divisor (fun _ _ _ _ _ _ us hl => match us, hl with | [_, _], _ => rfl) (fun vs H Q E ⟨a, b, e, _⟩ => by rw [e]; rfl) fun f cdv A outer s H vs Q E hr hs => ?_
  obtain ⟨a, b, rfl, q⟩ := hs
  refine ⟨_, pss_cons (ps_par rfl c_greatest_divisor.nd (i := 0) (j := 1) rfl rfl (by decide) rfl rfl (pa_cons (pe_callB call_abs (by rfl) T.abs boot_abs (pa_cons (pv 0) pa_nil)) (pa_cons (pe_callB call_abs (by rfl) T.abs boot_abs (pa_cons (pv 1) pa_nil)) pa_nil)) (by rfl))
    (pss_cons (ps_while (passes_of rfl) (pt_cmpR op_ne (pv 1) pe_int (nomark _)) (pss_one (ps_par rfl c_greatest_divisor.nd (i := 0) (j := 1) rfl rfl (by decide) rfl rfl (pa_cons (pv 1) (pa_cons (pe_op op_mod (pv 0) (pv 1)) pa_nil)) (by rfl))))
    (pss_one (ps_ret (pv 0)))), ?_⟩
  refine ⟨_, rfl, _, rfl, _, rfl, _, rfl, _, _, rfl, ?_⟩
  have ab : ∀ n : Nat, (if (n : Int) < 0 then -(n : Int) else n) = n := fun n => if_neg (by omega)
  rw [ab, ab]
  refine ⟨fun m σ H' => ∃ x y : Nat, σ = [some (.int x), some (.int y)] ∧ Nat.gcd x y = Nat.gcd a b ∧ m = y ∧ H' = H, ⟨b, a, b, rfl, rfl, rfl, rfl⟩, ?_⟩
  rintro m σ H' ⟨x, y, rfl, hg, rfl, rfl⟩
  refine ⟨_, rfl, rfl, _, rfl, ?_⟩
  by_cases hy : m = 0
  · subst hy
    rw [show decide (V.int ((0 : Nat) : Int) = V.int 0) = true from rfl]
    refine iteF ⟨_, rfl, ?_⟩
    rw [Nat.gcd_zero_right] at hg
    rw [hg]
    exact q
  · have e : decide (V.int (m : Int) = V.int 0) = false := by
      rw [dec_int]
      simp
      exact hy
    rw [e]
    refine iteT ⟨fun σ' H1 => ∃ x y : Nat, σ' = [some (.int x), some (.int y)] ∧ Nat.gcd x y = Nat.gcd a b ∧ y < m ∧ H1 = H', fun σ' H1 ⟨x', y', e1, e2, e3, e4⟩ => ⟨y', e3, x', y', e1, e2, rfl, e4⟩, ?_⟩
    refine ⟨_, rfl, _, rfl, _, rfl, _, _, rfl, rfl, (by omega : (0 : Int) < m), _, _, rfl, m, x % m, ?_, ?_, Nat.mod_lt _ (Nat.pos_of_ne_zero hy), rfl⟩
    · show [some (V.int (m : Int)), some (V.int ((x : Int) % (m : Int)))] = _
      rw [← Int.natCast_emod]
    · rw [← hg, Nat.gcd_comm x m, Nat.gcd_rec m x, Nat.gcd_comm]
theorem ok_cm (h : Has K mg "common_multiple" s_common_multiple) (D : Df P w K mg base 1 "greatest_divisor" ["one", "other"] spGd) : Df P w K mg base 2 "common_multiple" ["one", "other"] spCm := by
  refine h.df c_common_multiple (fun _ _ _ _ _ _ us hl => match us, hl with | [_, _], _ => rfl) (fun vs H Q E ⟨a, b, e, _⟩ => by rw [e]; rfl) fun f cdv A outer s H vs Q E hr hs => ?_
  obtain ⟨a, b, rfl, ha, hb, q⟩ := hs
  refine ⟨_, pss_one (ps_ret (pe_op op_mul (pe_op op_fdiv (pv 0) (pe_df D hr passL (by rfl) (pa_cons (pv 0) (pa_cons (pv 1) pa_nil)))) (pv 1))), ?_⟩
  have hg : 0 < Nat.gcd a b := Nat.gcd_pos_of_pos_left _ ha
  have hle : Nat.gcd a b ≤ a := Nat.le_of_dvd ha (Nat.gcd_dvd_left _ _)
  have hb2 : -(2 ^ 64) < (a : Int) / (Nat.gcd a b : Nat) ∧ (a : Int) / (Nat.gcd a b : Nat) < 2 ^ 64 := by
    have e : (a : Int) / (Nat.gcd a b : Nat) = ((a / Nat.gcd a b : Nat) : Int) := (Int.natCast_ediv _ _).symm
    have l : a / Nat.gcd a b ≤ a := Nat.div_le_self _ _
    rw [e]
    generalize a / Nat.gcd a b = z at l
    omega
  refine ⟨_, rfl, _, rfl, _, rfl, a, b, rfl, _, _, rfl, rfl, ⟨by omega, by omega⟩, _, rfl, _, _, rfl, rfl, .inl hb2, ?_⟩
  have e : (a : Int) / (Nat.gcd a b : Nat) * (b : Int) = ((cm a b : Nat) : Int) := by
    unfold cm
    rw [Int.natCast_mul, Int.natCast_ediv]
  show Q (.int ((a : Int) / (Nat.gcd a b : Nat) * (b : Int))) H
  rw [e]
  exact q

/-! ### least_step, rolled, piece, is_member -/
def spLs (K : PySem.W.Frag) : Sp := fun vs H Q _ => ∃ a r, vs = [.ref a] ∧ SqT K H a (bls r) ∧ r ≠ [] ∧ ∀ H', Same H H' → Q (.int (lstep r : Nat)) H'
def spRol (K : PySem.W.Frag) : Sp := fun vs H Q _ => ∃ a r k, vs = [.ref a, .int k] ∧ SqT K H a (bls r) ∧ r ≠ [] ∧ r.length ≤ sizeLine ∧ ∀ p H', Same H H' → SqT K H' p (bls (rol r k)) → Q (.ref p) H'
theorem ok_ls (h : Has K mg "least_step" s_least_step) (T : Tx K mg) : Df P w K mg base 1 "least_step" ["row"] (spLs K) := by
  refine h.df c_least_step (fun _ _ _ _ _ _ us hl => match us, hl with | [_], _ => rfl) (fun vs H Q E ⟨a, r, e, _⟩ => by rw [e]; rfl) fun f cdv A outer s H vs Q E hr hs => ?_
  obtain ⟨a, r, rfl, ha, hne, q⟩ := hs
  refine ⟨_, pss_cons (ps_set (i := 1) c_least_step.nd rfl (.inl rfl) pe_int)
    (pss_cons (ps_while (passes_of rfl) (PW.pt (pw_or (pt_cmpR op_ne (pe_op op_mod (pe_callB call_len_seq (by rfl) T.len boot_len (pa_cons (pv 0) pa_nil)) (pv 1)) pe_int (nomark _))
        (pw_or1 (pt_cmpR (op_neRow hr.units) (pe_slice sl_tupQ (pv 0) (po_some (pv 1)) po_none) (pe_slice sl_tupQ (pv 0) po_none (po_some (pe_op op_sub (pe_callB call_len_seq (by rfl) T.len boot_len (pa_cons (pv 0) pa_nil)) (pv 1)))) (nomark _)))))
      (pss_one (ps_aug (i := 1) c_least_step.nd rfl (.inl rfl) pe_int ip_add)))
    (pss_one (ps_ret (pv 1)))), ?_⟩
  obtain ⟨l1, l2, l3, l4⟩ := lstep_ok hne
  refine ⟨fun m σ H' => ∃ p : Nat, σ = [some (.ref a), some (.int p)] ∧ 1 ≤ p ∧ p ≤ lstep r ∧ m = lstep r - p ∧ Same H H', ⟨_, 1, rfl, Nat.le_refl _, l1, rfl, Same.refl H⟩, ?_⟩
  rintro m σ H' ⟨p, rfl, hp1, hp2, rfl, s1⟩
  have ha1 := sqT_same ha s1
  have next : ∀ H1, Same H' H1 → p < lstep r → ∃ N : L2.St → Hp → Prop, (∀ σ' H2, N σ' H2 → ∃ m', m' < lstep r - p ∧ ∃ p : Nat, σ' = [some (.ref a), some (.int p)] ∧ 1 ≤ p ∧ p ≤ lstep r ∧ m' = lstep r - p ∧ Same H H2) ∧
      N [some (.ref a), some (.int ((p : Int) + 1))] H1 := fun H1 s2 hlt => ⟨fun σ' H2 => σ' = [some (.ref a), some (.int ((p + 1 : Nat) : Int))] ∧ Same H H2, fun σ' H2 ⟨e1, e2⟩ => ⟨lstep r - (p + 1), by omega, p + 1, e1, by omega, by omega, rfl, e2⟩, by simp, s1.trans s2⟩
  refine ⟨_, rfl, a, _, rfl, .inr ha1, _, rfl, _, _, rfl, rfl, (by omega : (0 : Int) < p), rfl, _, rfl, ?_⟩
  have e0 : ((bls r).length : Int) % (p : Int) = ((r.length % p : Nat) : Int) := by rw [bls_len, Int.natCast_emod]
  by_cases hm : r.length % p = 0
  · refine iteBF (ne_int' (by rw [e0, hm]; rfl)) ⟨_, rfl, _, rfl, p, rfl, a, _, rfl, ha1, fun p1 H1 s2 t1 => ?_⟩
    rw [cut_from, bls_drop] at t1
    refine ⟨_, rfl, _, rfl, a, _, rfl, .inr (sqT_same ha1 s2), _, rfl, _, _, rfl, rfl, _, rfl, a, _, rfl, sqT_same ha1 s2, fun p2 H2 s3 t2 => ?_⟩
    have e : ((bls r).length : Int) - (p : Int) = ((r.length - p : Nat) : Int) := by
      rw [bls_len]
      omega
    rw [e, cut_to, bls_take] at t2
    refine ⟨p1, p2, _, _, rfl, rfl, sqT_same t1 s3, t2, _, rfl, ?_⟩
    by_cases he : r.drop p = r.take (r.length - p)
    · have hper : per r p = true := by
        unfold per
        rw [decide_eq_true hm, decide_eq_true he]
        rfl
      have hpl : p = lstep r := by
        by_cases hlt : p < lstep r
        · rw [l4 p hp1 hlt] at hper
          cases hper
        · omega
      refine iteBF (by rw [decide_eq_true he]; rfl) ⟨_, rfl, ?_⟩
      rw [hpl]
      exact q H2 (s1.trans (s2.trans s3))
    · have hlt : p < lstep r := by
        refine Nat.lt_of_le_of_ne hp2 fun z => he ?_
        have := l3
        rw [← z] at this
        unfold per at this
        exact of_decide_eq_true (Bool.and_eq_true_iff.mp this).2
      obtain ⟨N, n1, n2⟩ := next H2 (s2.trans s3) hlt
      exact iteBT (by rw [decide_eq_false he]; rfl) ⟨N, n1, _, rfl, _, _, rfl, rfl, n2⟩
  · have hlt : p < lstep r := by
      refine Nat.lt_of_le_of_ne hp2 fun z => hm ?_
      have := l3
      rw [← z] at this
      unfold per at this
      exact of_decide_eq_true (Bool.and_eq_true_iff.mp this).1
    obtain ⟨N, n1, n2⟩ := next H' (Same.refl H') hlt
    exact iteBT (ne_int (by rw [e0]; omega)) (iteT ⟨N, n1, _, rfl, _, _, rfl, rfl, n2⟩)
theorem ok_rol (h : Has K mg "rolled" s_rolled) (T : Tx K mg) : Df P w K mg base 1 "rolled" ["row", "by"] (spRol K) := by
  refine h.df c_rolled (fun _ _ _ _ _ _ us hl => match us, hl with | [_, _], _ => rfl) (fun vs H Q E ⟨a, r, k, e, _⟩ => by rw [e]; rfl) fun f cdv A outer s H vs Q E hr hs => ?_
  obtain ⟨a, r, k, rfl, ha, hne, hz, q⟩ := hs
  refine ⟨_, pss_cons (ps_set (i := 2) c_rolled.nd rfl (.inl rfl) (pe_op op_mod (pv 1) (pe_callB call_len_seq (by rfl) T.len boot_len (pa_cons (pv 0) pa_nil))))
    (pss_one (ps_ret (pe_op op_catQ (pe_slice sl_tupQ (pv 0) (po_some (pv 2)) po_none) (pe_slice sl_tupQ (pv 0) po_none (po_some (pv 2)))))), ?_⟩
  refine ⟨_, rfl, _, rfl, a, _, rfl, .inr ha, _, _, rfl, rfl, (by rw [bls_len]; exact len_pos hne), ?_⟩
  rw [bls_len]
  have h0 := Int.emod_nonneg k (Int.ne_of_gt (len_pos hne))
  have h1 := emod_lt hne k
  have e : k % (r.length : Int) = (((k % (r.length : Int)).toNat : Nat) : Int) := by omega
  refine ⟨_, rfl, _, rfl, _, rfl, a, _, rfl, ha, fun p1 H1 s1 t1 => ?_⟩
  refine ⟨_, rfl, _, rfl, _, rfl, a, _, rfl, sqT_same ha s1, fun p2 H2 s2 t2 => ?_⟩
  rw [e, cut_from, bls_drop] at t1
  rw [e, cut_to, bls_take] at t2
  refine ⟨p1, p2, _, _, rfl, rfl, sqT_same t1 s2, t2, ?_, fun p3 H3 s3 t3 => ?_⟩
  · rw [bls_len, bls_len, List.length_drop, List.length_take]
    omega
  · rw [bls_app] at t3
    exact q p3 H3 (s1.trans (s2.trans s3)) t3
def spPiece (K : PySem.W.Frag) : Sp := fun vs H Q _ => ∃ (b m : Addr) (rb rm : Row) (i : Int), vs = [.ref b, .ref m, .int i] ∧ SqT K H b (bls rb) ∧ SqT K H m (bls rm) ∧ rb ≠ [] ∧ i < rm.length ∧ Q (.bl (pieceB rb rm i)) H
theorem ok_piece (h : Has K mg "piece" s_piece) (T : Tx K mg) : Df P w K mg base 1 "piece" ["below", "middle", "at"] (spPiece K) := by
  refine h.df c_piece (fun _ _ _ _ _ _ us hl => match us, hl with | [_, _, _], _ => rfl) (fun vs H Q E ⟨b, m, rb, rm, i, e, _⟩ => by rw [e]; rfl) fun f cdv A outer s H vs Q E hr hs => ?_
  obtain ⟨b, m, rb, rm, i, rfl, hb, hm, hne, hi, q⟩ := hs
  refine ⟨_, pss_cons (ps_if (pt_cmpR op_lt (pv 2) pe_int (nomark _)) (pss_one (ps_ret (pe_ix ix_tup (pv 0) (pe_op op_mod (pv 2) (pe_callB call_len_seq (by rfl) T.len boot_len (pa_cons (pv 0) pa_nil))) (fun _ _ => rfl)))) pss_nil)
    (pss_one (ps_ret (pe_ix ix_tup (pv 1) (pv 2) (fun _ _ => rfl)))), ?_⟩
  unfold pieceB at q
  refine ⟨_, rfl, _, _, rfl, rfl, _, rfl, ite2 (fun h => ?_) fun h => ?_⟩
  · have h := of_decide_eq_true h
    rw [if_pos h] at q
    refine ⟨_, rfl, _, rfl, _, rfl, b, _, rfl, .inr hb, _, _, rfl, rfl, (by rw [bls_len]; exact len_pos hne), b, _, _, _, rfl, rfl, hb, ?_, q⟩
    rw [bls_len]
    exact at_row hne i
  · have h : ¬ i < 0 := fun z => h (decide_eq_true z)
    rw [if_neg h] at q
    refine ⟨_, rfl, _, rfl, m, _, i, _, rfl, rfl, hm, ?_, q⟩
    rw [show i = ((i.toNat : Nat) : Int) by omega]
    refine atI_nat ?_
    rw [Int.toNat_natCast, bls_get, List.getD_eq_getElem?_getD, List.getElem?_eq_getElem (by omega)]
    rfl
def memB (s : Int) (b m a : Row) (n : Int) : Bool := if n - s < m.length then pieceB b m (n - s) else bAt a (n - s - m.length)
def spMem (K : PySem.W.Frag) : Sp := fun vs H Q _ => ∃ (s : Int) (b m a : Addr) (rb rm ra : Row) (n : Int), vs = [.int s, .ref b, .ref m, .ref a, .int n] ∧ SqT K H b (bls rb) ∧ SqT K H m (bls rm) ∧ SqT K H a (bls ra) ∧ rb ≠ [] ∧ ra ≠ [] ∧ Q (.bl (memB s rb rm ra n)) H
theorem ok_mem (h : Has K mg "is_member" s_is_member) (T : Tx K mg) (D : Df P w K mg base 1 "piece" ["below", "middle", "at"] (spPiece K)) : Df P w K mg base 2 "is_member" ["start", "below", "middle", "above", "n"] (spMem K) := by
  refine h.df c_is_member (fun _ _ _ _ _ _ us hl => match us, hl with | [_, _, _, _, _], _ => rfl) (fun vs H Q E ⟨s, b, m, a, rb, rm, ra, n, e, _⟩ => by rw [e]; rfl) fun f cdv A outer s H vs Q E hr hs => ?_
  obtain ⟨s0, b, m, a, rb, rm, ra, n, rfl, hb, hm, ha, nb, na, q⟩ := hs
  refine ⟨_, pss_cons (ps_set (i := 5) c_is_member.nd rfl (.inl rfl) (pe_op op_sub (pv 4) (pv 0)))
    (pss_cons (ps_if (pt_cmpR op_lt (pv 5) (pe_callB call_len_seq (by rfl) T.len boot_len (pa_cons (pv 2) pa_nil)) (nomark _)) (pss_one (ps_ret (pe_df D hr passL (by rfl) (pa_cons (pv 1) (pa_cons (pv 2) (pa_cons (pv 5) pa_nil)))))) pss_nil)
    (pss_one (ps_ret (pe_ix ix_tup (pv 3) (pe_op op_mod (pe_op op_sub (pv 5) (pe_callB call_len_seq (by rfl) T.len boot_len (pa_cons (pv 2) pa_nil))) (pe_callB call_len_seq (by rfl) T.len boot_len (pa_cons (pv 3) pa_nil))) (fun _ _ => rfl))))), ?_⟩
  unfold memB at q
  refine ⟨_, rfl, _, rfl, _, _, rfl, rfl, ?_⟩
  refine ⟨_, rfl, _, rfl, m, _, rfl, .inr hm, _, _, rfl, rfl, _, rfl, ?_⟩
  rw [bls_len]
  refine ite2 (fun h => ?_) fun h => ?_
  · have h := of_decide_eq_true h
    rw [if_pos h] at q
    exact ⟨_, rfl, _, rfl, _, rfl, b, m, rb, rm, _, rfl, hb, hm, nb, h, q⟩
  · have h : ¬ n - s0 < rm.length := fun z => h (decide_eq_true z)
    rw [if_neg h] at q
    refine ⟨_, rfl, _, rfl, _, rfl, m, _, rfl, .inr hm, _, _, rfl, rfl, _, rfl, a, _, rfl, .inr ha, _, _, rfl, rfl, (by have z := len_pos na; show (0 : Int) < _; rw [bls_len]; exact z), a, _, _, _, rfl, rfl, ha, ?_, q⟩
    rw [bls_len, bls_len]
    exact at_row na _
end
end Rk
set_option maxHeartbeats 4000000
/-! The program's defs, third part: the one form; the class Rounds is made. -/
namespace Rk
open PySem PySem.Spec PyProof.Rows L2

/-- a comprehension over enumerate of a tuple, the targets' slots i1, i2 -/
theorem lcE {K : PySem.W.Frag} {a : Addr} {xs : List V} {te : TE} {i1 i2 : Nat} {g : TG} {vs : List Nat} {σ : L2.St} {H1 : Hp} {Qd : Addr → Hp → Prop} (f : Nat → V) (hn : xs.length ≤ sizeLine) (ha : SqT K H1 a xs)
    (hg : ∀ (T : Addr) (x y : V) (H : Hp) (Qg : L2.St → Hp → Prop), H T = some (.tup [x, y]) → Qg (((wipe σ vs).set i1 (some x)).set i2 (some y)) H → g (.ref T) (wipe σ vs) H Qg)
    (hw : ∀ x y, wipe (((wipe σ vs).set i1 (some x)).set i2 (some y)) vs = wipe σ vs)
    (hs : ∀ (j : Nat) (x : V) (H' : Hp) (Qy : VK), xs[j]? = some x → Same H1 H' → (∀ H'', Same H' H'' → Qy (f j) H'') → te (((wipe σ vs).set i1 (some (.int (j : Nat)))).set i2 (some x)) H' Qy)
    (hd : ∀ D H', H1 D = none → Same H1 H' → H' D = some (.lst ((List.range xs.length).map f)) → Qd D H') :
    ∀ D, H1 D = none → ∃ W : Nat → Nat → Hp → Prop, (∃ m, W 0 m (upd H1 D (.lst []))) ∧ ∀ k m H, W k m H →
      ((IteT K a).stop k H ∧ Qd D H) ∨ ((IteT K a).go k H ∧ ∃ Nx : Hp → Prop, (∀ H', Nx H' → ∃ m', m' < m ∧ W (k + 1) m' H') ∧ ∀ x H', (IteT K a).yld k H x H' → g x (wipe σ vs) H' fun σ2 H2 => wipe σ2 vs = wipe σ vs ∧ tYes σ2 H2 fun b H3 =>
        if b = true then te σ2 H3 fun y H4 => ∃ acc, H4 D = some (.lst acc) ∧ acc.length < sizeLine ∧ Nx (upd H4 D (.lst (acc ++ [y]))) else Nx H3) := by
  intro D hD
  refine ⟨fun k m H => m = xs.length - k ∧ k ≤ xs.length ∧ Same H1 H ∧ H D = some (.lst ((List.range k).map f)), ⟨_, rfl, Nat.zero_le _, same_upd hD, upd_same⟩, ?_⟩
  rintro k m H ⟨rfl, hk, s1, e1⟩
  have ha' := sqT_same ha s1
  by_cases hlt : k < xs.length
  · refine .inr ⟨⟨xs, xs[k], ha', List.getElem?_eq_getElem hlt⟩, fun H' => k + 1 ≤ xs.length ∧ Same H1 H' ∧ H' D = some (.lst ((List.range (k + 1)).map f)), fun H' ⟨p1, p2, p3⟩ => ⟨_, by omega, rfl, p1, p2, p3⟩, fun v H' y => ?_⟩
    obtain ⟨T, x, rfl, nT, rfl, hx⟩ := y
    have hx := hx xs ha'
    refine hg T _ x _ _ upd_same ⟨hw _ _, ?_⟩
    have s2 : Same H (upd H T (.tup [.int (k : Nat), x])) := same_upd nT
    unfold tYes
    dsimp only
    rw [if_pos rfl]
    refine hs k x _ _ hx (s1.trans s2) fun H4 s3 => ⟨_, s3 _ _ (s2 _ _ e1), ?_, hlt, same_upd' ((s1.trans s2).trans s3) hD, ?_⟩
    · rw [List.length_map, List.length_range]
      omega
    · rw [upd_same, List.range_succ, List.map_append]
      rfl
  · have e : k = xs.length := by omega
    subst e
    exact .inl ⟨⟨xs, ha', rfl⟩, hd D H hD s1 e1⟩

/-- at p: the tuple of a form -/
def FormAt (K : PySem.W.Frag) (H : Hp) (p : Addr) (F : Form) : Prop := ∃ b m a, SqT K H p [.int F.1, .ref b, .ref m, .ref a] ∧ SqT K H b (bls F.2.1) ∧ SqT K H m (bls F.2.2.1) ∧ SqT K H a (bls F.2.2.2)
theorem FormAt.same {K : PySem.W.Frag} {H H' : Hp} {p : Addr} {F : Form} (h : FormAt K H p F) (s : Same H H') : FormAt K H' p F :=
  let ⟨b, m, a, h1, h2, h3, h4⟩ := h
  ⟨b, m, a, sqT_same h1 s, sqT_same h2 s, sqT_same h3 s, sqT_same h4 s⟩
def spLm (K : PySem.W.Frag) : Sp := fun vs H Q _ => ∃ (s : Int) (b m a : Addr) (rb rm ra : Row), vs = [.int s, .ref b, .ref m, .ref a] ∧ SqT K H b (bls rb) ∧ SqT K H m (bls rm) ∧ SqT K H a (bls ra) ∧ rb ≠ [] ∧ ra ≠ [] ∧
  rb.length ≤ sizeLine ∧ ra.length ≤ sizeLine ∧ (∃ l, LowerIs rb rm ra l) ∧ ∀ F p H', LeastMid s rb rm ra F → Same H H' → FormAt K H' p F → Q (.ref p) H'
section
variable {P : Program} {w : World} {K : PySem.W.Frag} {mg : Str → Option Value} {base : Heap}
theorem eq_bl {a b : Bool} (h : a = b) : decide (V.bl a = V.bl b) = true := decide_eq_true (congrArg V.bl h)
theorem eq_bl' {a b : Bool} (h : a ≠ b) : decide (V.bl a = V.bl b) = false := decide_eq_false fun z => h (V.bl.inj z)
theorem ok_lm (h : Has K mg "least_middle" s_least_middle) (T : Tx K mg) (D : Df P w K mg base 1 "piece" ["below", "middle", "at"] (spPiece K)) (DR : Df P w K mg base 1 "rolled" ["row", "by"] (spRol K)) :
    Df P w K mg base 2 "least_middle" ["start", "below", "middle", "above"] (spLm K) := by
  refine h.df c_least_middle (fun _ _ _ _ _ _ us hl => match us, hl with | [_, _, _, _], _ => rfl) (fun vs H Q E ⟨_, _, _, _, _, _, _, e, _⟩ => by rw [e]; rfl) fun f cdv A outer s H vs Q E hr hs => ?_
  obtain ⟨s0, b, m, a, rb, rm, ra, rfl, hb, hm, ha, nb, na, zb, za, ⟨l0, hl0⟩, q⟩ := hs
  refine ⟨_, pss_cons (ps_set (i := 4) c_least_middle.nd rfl (.inl rfl) pe_int)
    (pss_cons (ps_while (passes_of rfl) (pt_cmpR op_eq (pe_df D hr passL (by rfl) (pa_cons (pv 1) (pa_cons (pv 2) (pa_cons (pe_op op_sub (pe_op op_sub (pe_callB call_len_seq (by rfl) T.len boot_len (pa_cons (pv 2) pa_nil)) pe_int) (pv 4)) pa_nil))))
        (pe_ix ix_tup (pv 3) (pe_op op_mod (pe_op op_sub (pe_un un_neg pe_int) (pv 4)) (pe_callB call_len_seq (by rfl) T.len boot_len (pa_cons (pv 3) pa_nil))) (fun _ _ => rfl)) (nomark _))
      (pss_one (ps_aug (i := 4) c_least_middle.nd rfl (.inl rfl) pe_int ip_add)))
    (pss_cons (ps_set (i := 3) c_least_middle.nd rfl (.inl rfl) (pe_df DR hr passL (by rfl) (pa_cons (pv 3) (pa_cons (pe_un un_neg (pv 4)) pa_nil))))
    (pss_cons (ps_set (i := 5) c_least_middle.nd rfl (.inl rfl) (pe_op op_sub (pe_callB call_len_seq (by rfl) T.len boot_len (pa_cons (pv 2) pa_nil)) (pv 4)))
    (pss_cons (ps_if (pt_cmpR op_le (pv 5) pe_int (nomark _)) (pss_one (ps_ret (pe_tup (pa_cons (pe_op op_add (pv 0) (pv 5)) (pa_cons (pe_df DR hr passL (by rfl) (pa_cons (pv 1) (pa_cons (pv 5) pa_nil))) (pa_cons (pe_tup pa_nil) (pa_cons (pv 3) pa_nil))))))) pss_nil)
    (pss_cons (ps_set (i := 6) c_least_middle.nd rfl (.inl rfl) pe_int)
    (pss_cons (ps_while (passes_of rfl) (PW.pt (pw_and (pt_cmpR op_lt (pv 6) (pv 5) (nomark _)) (pw_and1 (pt_cmpR op_eq (pe_ix ix_tup (pv 2) (pv 6) (fun _ _ => rfl)) (pe_ix ix_tup (pv 1) (pe_op op_mod (pv 6) (pe_callB call_len_seq (by rfl) T.len boot_len (pa_cons (pv 1) pa_nil))) (fun _ _ => rfl)) (nomark _)))))
      (pss_one (ps_aug (i := 6) c_least_middle.nd rfl (.inl rfl) pe_int ip_add)))
    (pss_one (ps_ret (pe_tup (pa_cons (pe_op op_add (pv 0) (pv 6)) (pa_cons (pe_df DR hr passL (by rfl) (pa_cons (pv 1) (pa_cons (pv 6) pa_nil))) (pa_cons (pe_slice sl_tupQ (pv 2) (po_some (pv 6)) (po_some (pv 5))) (pa_cons (pv 3) pa_nil))))))))))))), ?_⟩
  refine ⟨fun μ σ H' => ∃ l : Nat, σ = [some (.int s0), some (.ref b), some (.ref m), some (.ref a), some (.int l), none, none] ∧ l ≤ l0 ∧ μ = l0 - l ∧ H' = H, ⟨_, 0, rfl, Nat.zero_le _, rfl, rfl⟩, ?_⟩
  rintro μ σ H' ⟨l, rfl, hl, rfl, rfl⟩
  have za' := len_pos na
  have zb' := len_pos nb
  refine ⟨_, rfl, _, rfl, _, rfl, m, _, rfl, .inr hm, _, _, rfl, rfl, _, rfl, _, _, rfl, rfl, b, m, rb, rm, _, rfl, hb, hm, nb, ?_, ?_⟩
  · show ((bls rm).length : Int) - 1 - (l : Int) < rm.length
    rw [bls_len]
    omega
  refine ⟨_, rfl, _, rfl, _, rfl, _, _, rfl, rfl, _, rfl, a, _, rfl, .inr ha, _, _, rfl, rfl, (by show (0 : Int) < _; rw [bls_len]; exact za'), a, _, _, .bl (bAt ra (-1 - (l : Int))), rfl, rfl, ha, ?_, rfl, _, rfl, ?_⟩
  · show atI (bls ra) ((-1 - (l : Int)) % ((bls ra).length : Int)) = _
    rw [bls_len]
    exact at_row na _
  have ep : pieceB rb rm (((bls rm).length : Int) - 1 - (l : Int)) = pieceB rb rm ((rm.length : Int) - 1 - (l : Int)) := by rw [bls_len]
  by_cases hlt : l < l0
  · -- on
    refine iteBT (eq_bl (ep.trans (hl0.1 l hlt))) ⟨fun σ' H1 => σ' = [some (.int s0), some (.ref b), some (.ref m), some (.ref a), some (.int ((l + 1 : Nat) : Int)), none, none] ∧ H1 = H', fun σ' H1 ⟨e1, e2⟩ => ⟨l0 - (l + 1), by omega, l + 1, e1, by omega, rfl, e2⟩, ?_⟩
    exact ⟨_, rfl, _, _, rfl, rfl, by simp, rfl⟩
  -- the way down has ended
  have ell : l = l0 := by omega
  subst ell
  refine iteBF (eq_bl' fun z => hl0.2 (ep.symm.trans z)) ?_
  refine ⟨_, rfl, _, rfl, _, rfl, a, ra, _, rfl, ha, na, za, fun p1 H1 s1 t1 => ?_⟩
  refine ⟨_, rfl, m, _, rfl, .inr (sqT_same hm s1), _, rfl, _, _, rfl, rfl, ?_⟩
  refine ⟨_, rfl, _, _, rfl, rfl, _, rfl, ?_⟩
  have el : ((bls rm).length : Int) - (l : Int) = (rm.length : Int) - l := by rw [bls_len]
  by_cases hle : (rm.length : Int) - l ≤ 0
  · refine iteBT (decide_eq_true (by rw [el]; exact hle)) ?_
    refine ⟨_, rfl, _, rfl, _, _, rfl, rfl, _, rfl, _, rfl, b, rb, _, rfl, sqT_same hb s1, nb, zb, fun p2 H2 s2 t2 => ?_⟩
    refine ⟨(by show 0 ≤ sizeLine; decide), fun p3 n3 => ?_⟩
    have s3 := same_upd (o := .tup []) n3
    refine ⟨_, rfl, (by show 4 ≤ sizeLine; decide), fun p4 n4 => ?_⟩
    have s4 := same_upd (o := .tup [.int (s0 + (((bls rm).length : Int) - (l : Int))), .ref p2, .ref p3, .ref p1]) n4
    refine q _ p4 _ ⟨l, hl0, .inl ⟨hle, rfl⟩⟩ (s1.trans (s2.trans (s3.trans s4))) ⟨p2, p3, p1, ?_, ?_, ?_, ?_⟩
    · rw [← el]
      exact sqT_new
    · show SqT K _ p2 (bls (rol rb ((rm.length : Int) - l)))
      rw [← el]
      exact sqT_same t2 (s3.trans s4)
    · exact sqT_same sqT_new s4
    · exact sqT_same t1 (s2.trans (s3.trans s4))
  · refine iteBF (decide_eq_false (by rw [el]; exact hle)) ?_
    have hlm : l < rm.length := by omega
    have el2 : (rm.length : Int) - l = ((rm.length - l : Nat) : Int) := by omega
    refine ⟨fun μ σ H2 => ∃ h : Nat, σ = [some (.int s0), some (.ref b), some (.ref m), some (.ref p1), some (.int l), some (.int ((rm.length - l : Nat) : Int)), some (.int h)] ∧ h ≤ rm.length - l ∧ (∀ j : Nat, j < h → rm.getD j false = bAt rb j) ∧ μ = rm.length - l - h ∧ H2 = H1, ⟨_, 0, ?_, Nat.zero_le _, fun j hj => absurd hj (Nat.not_lt_zero _), rfl, rfl⟩, ?_⟩
    · show [some (V.int s0), some (.ref b), some (.ref m), some (.ref p1), some (.int l), some (.int (((bls rm).length : Int) - (l : Int))), some (.int 0)] = _
      rw [el, el2]
      rfl
    rintro μ σ H2 ⟨h, rfl, hh, heq, rfl, rfl⟩
    have hb1 := sqT_same hb s1
    have hm1 := sqT_same hm s1
    -- where the second loop has ended
    have fin : HigherIs rb rm (rm.length - l) h → tRet (tTup (tCons (tOp (rI0 fun i j => .int (i + j)) (tVar 0) (tVar 6)) (tCons (tC (spRol K) E0 (tCons (tVar 1) (tCons (tVar 6) tNil))) (tCons (tSl (rSlQ K) (tVar 2) (tPart (tVar 6)) (tPart (tVar 5))) (tCons (tVar 3) tNil)))))
        { nx := fun _ H' => Q .non H', rt := Q } [some (.int s0), some (.ref b), some (.ref m), some (.ref p1), some (.int l), some (.int ((rm.length - l : Nat) : Int)), some (.int h)] H2 := fun hi => by
      refine ⟨_, rfl, _, rfl, _, _, rfl, rfl, _, rfl, _, rfl, b, rb, _, rfl, hb1, nb, zb, fun p2 H3 s2 t2 => ?_⟩
      refine ⟨_, rfl, _, rfl, _, rfl, _, rfl, _, rfl, m, _, rfl, sqT_same hm1 s2, fun p3 H4 s3 t3 => ?_⟩
      rw [cut_mid, bls_take, bls_drop] at t3
      refine ⟨_, rfl, (by show 4 ≤ sizeLine; decide), fun p4 n4 => ?_⟩
      have s4 := same_upd (o := .tup [.int (s0 + (h : Int)), .ref p2, .ref p3, .ref p1]) n4
      exact q _ p4 _ ⟨l, hl0, .inr ⟨hlm, h, hi, rfl⟩⟩ (s1.trans (s2.trans (s3.trans s4))) ⟨p2, p3, p1, sqT_new, sqT_same t2 (s3.trans s4), sqT_same t3 s4, sqT_same t1 (s2.trans (s3.trans s4))⟩
    refine ⟨_, rfl, _, rfl, _, _, rfl, rfl, _, rfl, ?_⟩
    by_cases hlt2 : h < rm.length - l
    · refine iteBT (decide_eq_true (by omega)) ?_
      have hlen : h < rm.length := by omega
      refine ⟨_, rfl, _, rfl, m, _, _, .bl (rm.getD h false), rfl, rfl, hm1, ?_, ?_⟩
      · refine atI_nat ?_
        rw [bls_get, List.getD_eq_getElem?_getD, List.getElem?_eq_getElem hlen]
        rfl
      refine ⟨_, rfl, _, rfl, _, rfl, b, _, rfl, .inr hb1, _, _, rfl, rfl, (by show (0 : Int) < _; rw [bls_len]; exact zb'), b, _, _, .bl (bAt rb h), rfl, rfl, hb1, ?_, rfl, _, rfl, ?_⟩
      · show atI (bls rb) ((h : Int) % ((bls rb).length : Int)) = _
        rw [bls_len]
        exact at_row nb _
      by_cases he : rm.getD h false = bAt rb h
      · refine iteBT (eq_bl he) ⟨fun σ' H3 => σ' = [some (.int s0), some (.ref b), some (.ref m), some (.ref p1), some (.int l), some (.int ((rm.length - l : Nat) : Int)), some (.int ((h + 1 : Nat) : Int))] ∧ H3 = H2, fun σ' H3 ⟨e1, e2⟩ => ⟨rm.length - l - (h + 1), by omega, h + 1, e1, by omega, fun j hj => ?_, rfl, e2⟩, ?_⟩
        · by_cases hjh : j = h
          · subst hjh
            exact he
          · exact heq j (by omega)
        · exact ⟨_, rfl, _, _, rfl, rfl, by simp, rfl⟩
      · exact iteBF (eq_bl' he) (fin ⟨hh, heq, .inr he⟩)
    · have e1 : h = rm.length - l := by omega
      exact iteBF (decide_eq_false (by omega)) (iteF (fin ⟨hh, heq, .inl e1⟩))
end
end Rk
set_option maxHeartbeats 4000000
/-! The program's defs, fourth part: one_form, is_truths, Rounds.__init__. -/
namespace Rk
open PySem PySem.Spec PyProof.Rows L2

def spOf (K : PySem.W.Frag) : Sp := fun vs H Q _ => ∃ (s : Int) (b m a : Addr) (rb rm ra : Row), vs = [.int s, .ref b, .ref m, .ref a] ∧ SqT K H b (bls rb) ∧ SqT K H m (bls rm) ∧ SqT K H a (bls ra) ∧ rb ≠ [] ∧ ra ≠ [] ∧
  rb.length ≤ sizeLine ∧ rm.length ≤ sizeLine ∧ ra.length ≤ sizeLine ∧ ∀ F p H', OneForm s rb rm ra F → Same H H' → FormAt K H' p F → Q (.ref p) H'
theorem all_map {n : Nat} (g : Nat → Bool) : (((List.range n).map g).all id = true) ↔ ∀ j, j < n → g j = true := by
  rw [List.all_eq_true]
  constructor
  · intro h j hj
    exact h (g j) (List.mem_map.mpr ⟨j, List.mem_range.mpr hj, rfl⟩)
  · intro h x hx
    obtain ⟨j, hj, e⟩ := List.mem_map.mp hx
    rw [← e]
    exact h j (List.mem_range.mp hj)
section
variable {P : Program} {w : World} {K : PySem.W.Frag} {mg : Str → Option Value} {base : Heap}
theorem ok_of (h : Has K mg "one_form" s_one_form) (T : Tx K mg) (DL : Df P w K mg base 1 "least_step" ["row"] (spLs K)) (DR : Df P w K mg base 1 "rolled" ["row", "by"] (spRol K)) (DM : Df P w K mg base 2 "least_middle" ["start", "below", "middle", "above"] (spLm K)) :
    Df P w K mg base 3 "one_form" ["start", "below", "middle", "above"] (spOf K) := by
  refine h.df c_one_form (fun _ _ _ _ _ _ us hl => match us, hl with | [_, _, _, _], _ => rfl) (fun vs H Q E ⟨_, _, _, _, _, _, _, e, _⟩ => by rw [e]; rfl) fun f cdv A outer s H vs Q E hr hs => ?_
  obtain ⟨s0, b, m, a, rb, rm, ra, rfl, hb, hm, ha, nb, na, zb, zm, za, q⟩ := hs
  have hr1 := hr.mono (show 1 ≤ 2 by decide)
  refine ⟨_, (pss_cons (ps_set (i := 3) c_one_form.nd rfl (.inl rfl) (pe_slice sl_tupQ (pv 3) po_none (po_some (pe_df DL hr1 passL (by rfl) (pa_cons (pv 3) pa_nil)))))
    (pss_cons (ps_set (i := 1) c_one_form.nd rfl (.inl rfl) (pe_slice sl_tupQ (pv 1) po_none (po_some (pe_df DL hr1 passL (by rfl) (pa_cons (pv 1) pa_nil)))))
    (pss_cons (ps_set (i := 4) c_one_form.nd rfl (.inr rfl) (pe_df DR hr1 passL (by rfl) (pa_cons (pv 3) (pa_cons (pe_un un_neg (pe_callB (lenS (K := K) rfl) (by rfl) T.len boot_len (pa_cons (pv 2) pa_nil))) pa_nil))))
    (pss_cons (ps_if (PW.pt (pw_and (pt_cmpR (op_eqRow hr.units) (pv 1) (pv 4) (nomark _)) (pw_and1 (pt_val (pe_callB (cr_all rfl) (by rfl) T.all boot_all (pa_cons (pe_lc (own := [("at", 5), ("truth", 6)]) (tt := tYes) rfl c_one_form.nd (pi_enumT (by rfl) T.enumerate (pa_cons (pv 2) pa_nil)) (blkOk_by (N := n_one_form) (sc := defScope s_one_form) (by decide +kernel)) (fun _ _ _ _ _ => tgT (K := K) (n := 2) rfl rfl (pgs_cons (pg_name (i := 5) c_one_form.nd rfl (.inl rfl)) (pgs_cons (pg_name (i := 6) c_one_form.nd rfl (.inl rfl)) pgs_nil))) (fun _ _ _ _ _ => pts_nil) (fun _ _ _ _ _ => (pe_cmpR op_eq (pv 6) (pe_ix (ixT (K := K) rfl) (pv 4) (pe_op op_mod (pv 5) (pe_callB (lenS (K := K) rfl) (by rfl) T.len boot_len (pa_cons (pv 4) pa_nil))) (fun _ _ => rfl)) (nomark _)))) pa_nil)))))) (pss_cons (ps_set (i := 4) c_one_form.nd rfl (.inr rfl) (pe_df DR hr1 passL (by rfl) (pa_cons (pv 4) (pa_cons (pe_un un_neg (pv 0)) pa_nil))))
      (pss_one (ps_ret (pe_tup (pa_cons pe_int (pa_cons (pv 4) (pa_cons (pe_tup pa_nil) (pa_cons (pv 4) pa_nil)))))))) pss_nil)
    (pss_one (ps_ret (pe_df DM hr passL (by rfl) (pa_cons (pv 0) (pa_cons (pv 1) (pa_cons (pv 2) (pa_cons (pv 3) pa_nil))))))))))), ?_⟩
  have ca := cut_ne na
  have cb := cut_ne nb
  have la := cut_len na
  have lb := cut_len nb
  have la2 := (lstep_ok na).2.1
  have lb2 := (lstep_ok nb).2.1
  refine ⟨_, rfl, _, rfl, a, ra, rfl, ha, na, fun H1 s1 => ⟨_, rfl, a, _, rfl, sqT_same ha s1, fun a1 H2 s2 t1 => ?_⟩⟩
  rw [cut_to, bls_take] at t1
  refine ⟨_, rfl, _, rfl, b, rb, rfl, sqT_same hb (s1.trans s2), nb, fun H3 s3 => ⟨_, rfl, b, _, rfl, sqT_same hb (s1.trans (s2.trans s3)), fun b1 H4 s4 t2 => ?_⟩⟩
  rw [cut_to, bls_take] at t2
  have s14 := s1.trans (s2.trans (s3.trans s4))
  have hm4 := sqT_same hm s14
  have ha4 := sqT_same t1 (s3.trans s4)
  refine ⟨_, rfl, _, rfl, m, _, rfl, .inr hm4, _, rfl, a1, _, _, rfl, ha4, ca, by omega, fun w1 H5 s5 t3 => ?_⟩
  rw [bls_len] at t3
  generalize hW : rol (ra.take (lstep ra)) (-(rm.length : Int)) = W at t3
  have nW : W ≠ [] := by
    rw [← hW]
    exact rol_ne ca _
  have lW : W.length = lstep ra := by rw [← hW, rol_length, la]
  have hm5 := sqT_same hm4 s5
  have hb5 := sqT_same t2 s5
  have ha5 := sqT_same ha4 s5
  -- the way by least_middle
  have other : ∀ H6, Same H5 H6 → ¬ (rb.take (lstep rb) = W ∧ allM W rm) → ∀ (z5 z6 : Option V), L2.Cx → True := fun _ _ _ _ _ _ => trivial
  have low : ¬ (rb.take (lstep rb) = W ∧ allM W rm) → ∃ l, LowerIs (rb.take (lstep rb)) rm (ra.take (lstep ra)) l := fun hn => lower_ends cb ca (by rw [cut_prim nb, lb]) (by rw [cut_prim na, la]) (by rw [hW]; exact hn)
  have mid : ∀ H6, Same H5 H6 → ¬ (rb.take (lstep rb) = W ∧ allM W rm) → spLm K [.int s0, .ref b1, .ref m, .ref a1] H6 Q E0 := fun H6 s6 hn =>
    ⟨s0, b1, m, a1, _, rm, _, rfl, sqT_same hb5 s6, sqT_same hm5 s6, sqT_same ha5 s6, cb, ca, by omega, by omega, low hn, fun F p H7 hF s7 hp => q F p H7 (.inr ⟨by rw [hW]; exact hn, hF⟩) (s14.trans (s5.trans (s6.trans s7))) hp⟩
  refine ⟨_, rfl, _, rfl, b1, w1, _, _, rfl, rfl, hb5, t3, _, rfl, ?_⟩
  by_cases hbw : rb.take (lstep rb) = W
  · refine iteBT (decide_eq_true hbw) ?_
    refine ⟨_, rfl, m, _, rfl, hm5, ?_⟩
    refine lcE (K := K) (i1 := 5) (i2 := 6) (fun j => .bl (decide (rm.getD j false = bAt W j))) (by rw [bls_len]; exact zm) hm5 (fun T0 x y H' Qg e q => ⟨T0, _, rfl, sqT_at e, rfl, _, _, rfl, _, _, rfl, rfl, q⟩) (fun x y => rfl) (fun j x H' Qy hx s6 qy => ?_) fun L0 H6 n6 s6 e6 => ?_
    · have hj : j < rm.length := by
        have := (List.getElem?_eq_some_iff.mp hx).1
        rwa [bls_len] at this
      rw [bls_get, List.getElem?_eq_getElem hj] at hx
      have ex : x = .bl rm[j] := (Option.some.inj hx).symm
      subst ex
      refine ⟨_, rfl, _, rfl, _, rfl, _, rfl, w1, _, rfl, .inr (sqT_same t3 s6), _, _, rfl, rfl, (by have z := len_pos nW; show (0 : Int) < _; rw [bls_len]; exact z), w1, _, _, .bl (bAt W j), rfl, rfl, sqT_same t3 s6, ?_, rfl, ?_⟩
      · show atI (bls W) ((j : Int) % ((bls W).length : Int)) = _
        rw [bls_len]
        exact at_row nW _
      · have e : decide (V.bl rm[j] = V.bl (bAt W j)) = decide (rm.getD j false = bAt W j) := by
          rw [List.getD_eq_getElem?_getD, List.getElem?_eq_getElem hj]
          simp
        rw [e]
        exact qy H' (Same.refl H')
    · rw [bls_len] at e6
      have e7 : H6 L0 = some (.lst (((List.range rm.length).map fun j => decide (rm.getD j false = bAt W j)).map V.bl)) := by
        rw [e6, List.map_map]
        rfl
      refine ⟨L0, _, rfl, sqL_at e7, _, rfl, ?_⟩
      have hall : (((List.range rm.length).map fun j => decide (rm.getD j false = bAt W j)).all id = true) ↔ allM W rm := by
        rw [all_map]
        constructor
        · intro h i hi
          have z := of_decide_eq_true (h i hi)
          rw [List.getD_eq_getElem?_getD, List.getElem?_eq_getElem hi] at z
          exact z
        · intro h j hj
          refine decide_eq_true ?_
          rw [List.getD_eq_getElem?_getD, List.getElem?_eq_getElem hj]
          exact h j hj
      by_cases hm0 : allM W rm
      · refine iteBT (hall.mpr hm0) ?_
        refine ⟨_, rfl, _, rfl, _, rfl, w1, W, _, rfl, sqT_same t3 s6, nW, by omega, fun w2 H7 s7 t7 => ?_⟩
        refine ⟨_, rfl, (by show 0 ≤ sizeLine; decide), fun p3 n3 => ?_⟩
        have s8 := same_upd (o := .tup []) n3
        refine ⟨_, rfl, (by show 4 ≤ sizeLine; decide), fun p4 n4 => ?_⟩
        have s9 := same_upd (o := .tup [.int 0, .ref w2, .ref p3, .ref w2]) n4
        refine q _ p4 _ (.inl ⟨by rw [hW]; exact hbw, by rw [hW]; exact hm0, rfl⟩) (s14.trans (s5.trans (s6.trans (s7.trans (s8.trans s9))))) ⟨w2, p3, w2, sqT_new, ?_, sqT_same sqT_new s9, ?_⟩
        · show SqT K _ w2 (bls (rol (rol (ra.take (lstep ra)) (-(rm.length : Int))) (-s0)))
          rw [hW]
          exact sqT_same t7 (s8.trans s9)
        · show SqT K _ w2 (bls (rol (rol (ra.take (lstep ra)) (-(rm.length : Int))) (-s0)))
          rw [hW]
          exact sqT_same t7 (s8.trans s9)
      · refine iteBF (Bool.eq_false_iff.mpr fun z => hm0 (hall.mp z)) ?_
        exact ⟨_, rfl, _, rfl, _, rfl, _, rfl, mid H6 s6 fun z => hm0 z.2⟩
  · refine iteBF (decide_eq_false hbw) (iteF ?_)
    exact ⟨_, rfl, _, rfl, _, rfl, _, rfl, mid H5 (Same.refl H5) fun z => hbw z.1⟩

/-! ### is_truths -/
def spTrT (K : PySem.W.Frag) : Sp := fun vs H Q _ => ∃ a r, vs = [.ref a] ∧ SqT K H a (bls r) ∧ r.length ≤ sizeLine ∧ ∀ H', Same H H' → Q (.bl true) H'
def spTrL (K : PySem.W.Frag) : Sp := fun vs H Q _ => ∃ a r, vs = [.ref a] ∧ SqL K H a (bls r) ∧ r.length ≤ sizeLine ∧ ∀ H', Same H H' → Q (.bl true) H'
theorem all_true {r : Row} : ((r.map fun _ => true).all id) = true := by
  rw [List.all_eq_true]
  intro x hx
  obtain ⟨_, _, e⟩ := List.mem_map.mp hx
  rw [← e]
  rfl
theorem dp_rowL {H : Hp} {a : Addr} {r : Row} (h : SqL K H a (bls r)) : Dp K H (.ref a) (.list (rowD r)) := .lst h (dpAll_row r)
theorem trT_body (T : Tx K mg) (D : Df P w K mg base 1 "is_row" ["value"] (spIsRow K)) (f : Addr) : BodyOk P w K mg base 1 "is_truths" s_is_truths n_is_truths (spTrT K) f := by
  intro cdv A outer s H vs Q E hr hs
  obtain ⟨a, r, rfl, ha, hz, q⟩ := hs
  refine ⟨_, pss_one (ps_ret (pe_and (pe_df D hr passL (by rfl) (pa_cons (pv 0) pa_nil)) (pe_one (pe_callB (cr_all rfl) (by rfl) T.all boot_all (pa_cons
    (pe_lc (own := [("item", 1)]) (g := gName 1) (tt := tYes) rfl c_is_truths.nd (piT (K := K) rfl (pv 0)) (blkOk_by (N := n_is_truths) (sc := defScope s_is_truths) (by decide +kernel)) (fun _ _ _ _ _ => pg_name (i := 1) c_is_truths.nd rfl (Or.inl rfl)) (fun _ _ _ _ _ => pts_nil)
      (fun _ _ _ _ _ => pe_or (pe_cmpR op_isB (pv 1) pe_bl (nomark _)) (pe_one (pe_cmpR op_isB (pv 1) pe_bl (nomark _))))) pa_nil))))), ?_⟩
  refine ⟨_, rfl, _, _, rfl, dp_row ha, fun H1 s1 => ⟨_, rfl, iteT ⟨_, rfl, a, rfl, ⟨_, sqT_same ha s1⟩, ?_⟩⟩⟩
  refine lcT (K := K) (i := 1) (fun _ => .bl true) (by rw [bls_len]; exact hz) (sqT_same ha s1) (fun j x H' Qy hx s2 qy => ?_) fun L0 H2 n2 s2 e2 => ?_
  · rw [bls_get] at hx
    obtain ⟨b, _, e⟩ := Option.map_eq_some_iff.mp hx
    subst e
    refine ⟨_, rfl, b, true, rfl, rfl, _, rfl, ?_⟩
    cases b with
    | true => exact iteBT rfl (qy H' (Same.refl H'))
    | false => exact iteBF rfl ⟨_, rfl, false, false, rfl, rfl, qy H' (Same.refl H')⟩
  · refine ⟨L0, r.map fun _ => true, rfl, sqL_at ?_, ?_⟩
    · rw [e2]
      show some (HO.lst ((r.map V.bl).map fun _ => V.bl true)) = some (HO.lst ((r.map fun _ => true).map V.bl))
      rw [List.map_map, List.map_map]
      rfl
    · rw [all_true]
      exact q H2 (s1.trans s2)
theorem trL_body (T : Tx K mg) (D : Df P w K mg base 1 "is_row" ["value"] (spIsRow K)) (f : Addr) : BodyOk P w K mg base 1 "is_truths" s_is_truths n_is_truths (spTrL K) f := by
  intro cdv A outer s H vs Q E hr hs
  obtain ⟨a, r, rfl, ha, hz, q⟩ := hs
  refine ⟨_, pss_one (ps_ret (pe_and (pe_df D hr passL (by rfl) (pa_cons (pv 0) pa_nil)) (pe_one (pe_callB (cr_all rfl) (by rfl) T.all boot_all (pa_cons
    (pe_lc (own := [("item", 1)]) (g := gName 1) (tt := tYes) rfl c_is_truths.nd (piL (K := K) rfl (pv 0)) (blkOk_by (N := n_is_truths) (sc := defScope s_is_truths) (by decide +kernel)) (fun _ _ _ _ _ => pg_name (i := 1) c_is_truths.nd rfl (Or.inl rfl)) (fun _ _ _ _ _ => pts_nil)
      (fun _ _ _ _ _ => pe_or (pe_cmpR op_isB (pv 1) pe_bl (nomark _)) (pe_one (pe_cmpR op_isB (pv 1) pe_bl (nomark _))))) pa_nil))))), ?_⟩
  refine ⟨_, rfl, _, _, rfl, dp_rowL ha, fun H1 s1 => ⟨_, rfl, iteT ⟨_, rfl, a, rfl, ⟨_, sqL_same ha s1⟩, ?_⟩⟩⟩
  refine lcLF (K := K) (i := 1) (tt := tYes) (fun _ => true) (fun _ => .bl true) (by rw [bls_len]; exact hz) (sqL_same ha s1) (fun j x H' Qb _ _ qb => qb H' (Same.refl H')) (fun j x H' Qy hx _ s2 qy => ?_) fun L0 H2 n2 s2 e2 => ?_
  · rw [bls_get] at hx
    obtain ⟨b, _, e⟩ := Option.map_eq_some_iff.mp hx
    subst e
    refine ⟨_, rfl, b, true, rfl, rfl, _, rfl, ?_⟩
    cases b with
    | true => exact iteBT rfl (qy H' (Same.refl H'))
    | false => exact iteBF rfl ⟨_, rfl, false, false, rfl, rfl, qy H' (Same.refl H')⟩
  · refine ⟨L0, r.map fun _ => true, rfl, sqL_at ?_, ?_⟩
    · rw [e2, List.filter_eq_self.mpr fun _ _ => rfl]
      show some (HO.lst ((r.map V.bl).map fun _ => V.bl true)) = some (HO.lst ((r.map fun _ => true).map V.bl))
      rw [List.map_map, List.map_map]
      rfl
    · rw [all_true]
      exact q H2 (s1.trans s2)
end
end Rk
set_option maxHeartbeats 4000000
/-! The program's defs, fifth part: a Rounds is made; the makers. -/
namespace Rk
open PySem PySem.Spec PyProof.Rows L2

/-- what the walk asks of the class Rounds at C -/
structure RC (K : PySem.W.Frag) (mg : Str → Option Value) (C : Addr) : Prop where
  cl : Cls K C
  no : ∀ f ∈ (["start", "below", "middle", "above"] : List Str), NoAttr K C f
  at_ : mg "Rounds" = some (.ref C)
  sf : PySem.W.selfFirst K C = true
  ha : PySem.W.findIn K (.ref C) "__class__" = some (some (.builtin "object.__class__"))
  hn : PySem.W.specialIn K (.builtin "object.__class__") "__get__" = some (some (.builtin "getset_descriptor.__get__"))
  htk : PySem.W.takesIn K (.builtin "object.__class__") = some true
  hm : PySem.W.mroIn K C (.type "object") = some true
  me : PySem.W.kitOne K (.ref C) (.ref C) = some true
def fldR (s : Int) (b m a : Addr) : List (Str × V) := [("start", .int s), ("below", .ref b), ("middle", .ref m), ("above", .ref a)]
theorem fld_put (s : Int) (b m a : Addr) : putF "above" (.ref a) (putF "middle" (.ref m) (putF "below" (.ref b) (putF "start" (.int s) []))) = fldR s b m a := by rfl
theorem fld_start (s : Int) (b m a : Addr) : (fldR s b m a).lookup ("start" : Str) = some (.int s) := by rfl
theorem fld_below (s : Int) (b m a : Addr) : (fldR s b m a).lookup ("below" : Str) = some (.ref b) := by rfl
theorem fld_middle (s : Int) (b m a : Addr) : (fldR s b m a).lookup ("middle" : Str) = some (.ref m) := by rfl
theorem fld_above (s : Int) (b m a : Addr) : (fldR s b m a).lookup ("above" : Str) = some (.ref a) := by rfl
/-- at p: a Rounds of the form F -/
structure Rou (K : PySem.W.Frag) (C : Addr) (H : Hp) (p : Addr) (F : Form) : Prop where
  ex : ∃ dx b m a, H p = some (.ins C dx (fldR F.1 b m a)) ∧ SqT K H b (bls F.2.1) ∧ SqT K H m (bls F.2.2.1) ∧ SqT K H a (bls F.2.2.2)
theorem Rou.same {K : PySem.W.Frag} {C : Addr} {H H' : Hp} {p : Addr} {F : Form} (h : Rou K C H p F) (s : Same H H') : Rou K C H' p F :=
  let ⟨dx, b, m, a, h1, h2, h3, h4⟩ := h.ex
  ⟨dx, b, m, a, s _ _ h1, sqT_same h2 s, sqT_same h3 s, sqT_same h4 s⟩
def spTr (K : PySem.W.Frag) : Sp := fun vs H Q E => spTrT K vs H Q E ∨ spTrL K vs H Q E
def spRi (K : PySem.W.Frag) (C : Addr) : Sp := fun vs H Q _ => ∃ (p dx : Addr) (s : Int) (b m a : Addr) (rb rm ra : Row), vs = [.ref p, .int s, .ref b, .ref m, .ref a] ∧ H p = some (.ins C dx []) ∧ SqT K H b (bls rb) ∧ (SqL K H m (bls rm) ∨ SqT K H m (bls rm)) ∧ SqT K H a (bls ra) ∧
  rb ≠ [] ∧ ra ≠ [] ∧ rb.length ≤ sizeLine ∧ rm.length ≤ sizeLine ∧ ra.length ≤ sizeLine ∧ ∀ F H', OneForm s rb rm ra F → Rou K C H' p F → (∀ c o, H c = some o → c ≠ p → H' c = some o) → Q .non H'
section
variable {P : Program} {w : World} {K : PySem.W.Frag} {mg : Str → Option Value} {base : Heap}
theorem ok_tr (h : Has K mg "is_truths" s_is_truths) (T : Tx K mg) (D : Df P w K mg base 1 "is_row" ["value"] (spIsRow K)) : Df P w K mg base 2 "is_truths" ["value"] (spTr K) := by
  refine h.df c_is_truths (fun _ _ _ _ _ _ us hl => match us, hl with | [_], _ => rfl) (fun vs H Q E z => by rcases z with ⟨_, _, e, _⟩ | ⟨_, _, e, _⟩ <;> rw [e] <;> rfl) fun f cdv A outer s H vs Q E hr hs => ?_
  rcases hs with hs | hs
  · obtain ⟨a, r, rfl, ha, hz, q⟩ := hs
    exact trT_body T D f cdv A outer s H _ Q E hr ⟨a, r, rfl, ha, hz, q⟩
  · obtain ⟨a, r, rfl, ha, hz, q⟩ := hs
    exact trL_body T D f cdv A outer s H _ Q E hr ⟨a, r, rfl, ha, hz, q⟩
theorem len_ne {r : Row} (h : r ≠ []) : decide (V.int ((bls r).length : Int) = V.int 0) = false := by
  refine decide_eq_false fun z => ?_
  have e := V.int.inj z
  rw [bls_len] at e
  have := List.length_pos_iff.mpr h
  omega
theorem ok_ri {C BN : Addr} (h : HasI K mg "Rounds" C "Rounds.__init__" s_R_init) (R : RC K mg C) (T : Tx K mg) (DC : Df P w K mg base 3 "check_int" ["what", "value"] (spCheck K BN)) (DT : Df P w K mg base 2 "is_truths" ["value"] (spTr K))
    (DO : Df P w K mg base 3 "one_form" ["start", "below", "middle", "above"] (spOf K)) : Ck P w K mg base "Rounds" C 4 ["self", "start", "below", "middle", "above"] (spRi K C) := by
  refine h.ck c_R_init (fun _ _ _ _ _ _ us hl => match us, hl with | [_, _, _, _, _], _ => rfl) (fun vs H Q E ⟨_, _, _, _, _, _, _, _, _, e, _⟩ => by rw [e]; rfl) fun f cdv A outer s H vs Q E hr hs => ?_
  obtain ⟨p, dx, s0, b, m, a, rb, rm, ra, rfl, hp, hb, hm, ha, nb, na, zb, zm, za, q⟩ := hs
  have hr2 := hr.mono (show 2 ≤ 3 by decide)
  refine ⟨_, (pss_cons (ps_expr (pe_df DC hr passL (by rfl) (pa_cons pe_str (pa_cons (pv 1) pa_nil))))
    (pss_cons (ps_if (PW.pt (pw_or (pt_not (pt_val (pe_df DT hr2 passL (by rfl) (pa_cons (pv 2) pa_nil)))) (pw_or1 (pt_cmpR op_eq (pe_callB (lenS (K := K) rfl) (by rfl) T.len boot_len (pa_cons (pv 2) pa_nil)) pe_int (nomark _))))) (pss_one ps_never) pss_nil)
    (pss_cons (ps_if (pt_not (pt_val (pe_df DT hr2 passL (by rfl) (pa_cons (pv 3) pa_nil)))) (pss_one ps_never) pss_nil)
    (pss_cons (ps_if (PW.pt (pw_or (pt_not (pt_val (pe_df DT hr2 passL (by rfl) (pa_cons (pv 4) pa_nil)))) (pw_or1 (pt_cmpR op_eq (pe_callB (lenS (K := K) rfl) (by rfl) T.len boot_len (pa_cons (pv 4) pa_nil)) pe_int (nomark _))))) (pss_one ps_never) pss_nil)
    (pss_cons (ps_set (i := 5) c_R_init.nd rfl (.inl rfl) (pe_df DO hr passL (by rfl) (pa_cons (pv 1) (pa_cons (pe_callTy (tupS (K := K) rfl) (by rfl) T.tuple boot_tuple (pa_cons (pv 2) pa_nil)) (pa_cons (pe_callTy (tupS (K := K) rfl) (by rfl) T.tuple boot_tuple (pa_cons (pv 3) pa_nil)) (pa_cons (pe_callTy (tupS (K := K) rfl) (by rfl) T.tuple boot_tuple (pa_cons (pv 4) pa_nil)) pa_nil))))))
    (pss_one (ps_asg (pv 5) (pg_tup rfl (pgs_cons (pg_fld (pv 0)) (pgs_cons (pg_fld (pv 0)) (pgs_cons (pg_fld (pv 0)) (pgs_cons (pg_fld (pv 0)) pgs_nil)))))))))))), ?_⟩
  refine ⟨_, rfl, _, _, _, rfl, .int s0, (fun _ => ?_), fun z => by cases z⟩
  refine ⟨_, rfl, .inl ⟨b, rb, rfl, hb, zb, fun H1 s1 => ⟨_, rfl, iteF ⟨_, rfl, b, _, rfl, .inr (sqT_same hb s1), rfl, _, rfl, iteBF (len_ne nb) ?_⟩⟩⟩⟩
  have tm : ∀ (Qt : VK), (∀ H2, Same H1 H2 → Qt (.bl true) H2) → spTr K [.ref m] H1 Qt E0 := fun Qt qt => by
    rcases hm with hm | hm
    · exact .inr ⟨m, rm, rfl, sqL_same hm s1, zm, qt⟩
    · exact .inl ⟨m, rm, rfl, sqT_same hm s1, zm, qt⟩
  refine ⟨_, rfl, tm _ fun H2 s2 => ⟨_, rfl, iteF ?_⟩⟩
  have s12 := s1.trans s2
  refine ⟨_, rfl, .inl ⟨a, ra, rfl, sqT_same ha s12, za, fun H3 s3 => ⟨_, rfl, iteF ⟨_, rfl, a, _, rfl, .inr (sqT_same ha (s12.trans s3)), rfl, _, rfl, iteBF (len_ne na) ?_⟩⟩⟩⟩
  have s13 := s12.trans s3
  refine ⟨_, rfl, _, rfl, b, _, rfl, .inr (sqT_same hb s13), fun b1 H4 s4 t4 => ?_⟩
  have s14 := s13.trans s4
  refine ⟨_, rfl, m, _, rfl, hm.imp (fun z => sqL_same z s14) (fun z => sqT_same z s14), fun m1 H5 s5 t5 => ?_⟩
  refine ⟨_, rfl, a, _, rfl, .inr (sqT_same ha (s14.trans s5)), fun a1 H6 s6 t6 => ?_⟩
  have s16 := (s14.trans s5).trans s6
  refine ⟨s0, b1, m1, a1, rb, rm, ra, rfl, sqT_same t4 (s5.trans s6), sqT_same t5 s6, t6, nb, na, zb, zm, za, fun F pf H7 hF s7 hf => ?_⟩
  obtain ⟨b2, m2, a2, h1, h2, h3, h4⟩ := hf
  have hp7 := (s16.trans s7) _ _ hp
  have ne : ∀ {c xs}, SqT K H7 c xs → ∀ (o : HO) (t : Hp), t = upd H7 p o → SqT K t c xs := fun {c xs} hc o t e => by
    rw [e]
    rcases hc with (hc | ⟨oo, hc⟩) | hc
    · exact .inl (.inl (by rw [upd_ne (ne_of hc hp7 (by intro z; cases z))]; exact hc))
    · exact .inl (.inr ⟨oo, by rw [upd_ne (ne_of hc hp7 (by intro z; cases z))]; exact hc⟩)
    · exact .inr hc
  refine ⟨_, rfl, pf, _, rfl, h1, rfl, _, _, rfl, ⟨_, rfl, p, C, dx, _, rfl, hp7, R.cl, R.no _ (by simp), (by show 0 < 1000; decide), ?_⟩⟩
  refine ⟨_, _, rfl, ⟨_, rfl, p, C, dx, _, rfl, upd_same, R.cl, R.no _ (by simp), (by show 1 < 1000; decide), ?_⟩⟩
  refine ⟨_, _, rfl, ⟨_, rfl, p, C, dx, _, rfl, upd_same, R.cl, R.no _ (by simp), (by show 2 < 1000; decide), ?_⟩⟩
  refine ⟨_, _, rfl, ⟨_, rfl, p, C, dx, _, rfl, upd_same, R.cl, R.no _ (by simp), (by show 3 < 1000; decide), rfl, ?_⟩⟩
  show Q .non (upd (upd (upd (upd H7 p _) p _) p _) p (.ins C dx (fldR F.1 b2 m2 a2)))
  rw [upd_upd, upd_upd, upd_upd]
  refine q F _ hF ⟨dx, b2, m2, a2, upd_same, ne h2 _ _ rfl, ne h3 _ _ rfl, ne h4 _ _ rfl⟩ fun c o e hc => ?_
  rw [upd_ne hc]
  exact (s16.trans s7) _ _ e
/-- Rounds(s, b, m, a): what is asked, what comes -/
theorem rounds_made {C : Addr} {H : Hp} {s : Int} {b m a : Addr} {rb rm ra : Row} {Q : VK} (hb : SqT K H b (bls rb)) (hm : SqL K H m (bls rm) ∨ SqT K H m (bls rm)) (ha : SqT K H a (bls ra)) (nb : rb ≠ []) (na : ra ≠ []) (zb : rb.length ≤ sizeLine) (zm : rm.length ≤ sizeLine) (za : ra.length ≤ sizeLine)
    (q : ∀ F p H', OneForm s rb rm ra F → Same H H' → Rou K C H' p F → Q (.ref p) H') :
    ∀ x dx, H x = none → H dx = none → dx ≠ x → spRi K C [.ref x, .int s, .ref b, .ref m, .ref a] (upd (upd H dx (.own x)) x (.ins C dx [])) (fun v H2 => v = .non ∧ Q (.ref x) H2) E0 := fun x dx nx nd ne => by
  have s1 : Same H (upd (upd H dx (.own x)) x (.ins C dx [])) := fun c o e => by
    rw [upd_ne (ne_of_none e nx), upd_ne (ne_of_none e nd)]
    exact e
  exact ⟨x, dx, s, b, m, a, rb, rm, ra, rfl, upd_same, sqT_same hb s1, hm.imp (fun z => sqL_same z s1) (fun z => sqT_same z s1), sqT_same ha s1, nb, na, zb, zm, za, fun F H' hF hR k => ⟨rfl, q F x H' hF (fun c o e => k c o (s1 c o e) (ne_of_none e nx)) hR⟩⟩

/-! ### the makers -/
/-- what a maker gives: a new Rounds of a form that G tells -/
abbrev Made (K : PySem.W.Frag) (C : Addr) (G : Form → Prop) (H : Hp) (Q : VK) : Prop := ∀ F p H', G F → Same H H' → Rou K C H' p F → Q (.ref p) H'
def spMk0 (K : PySem.W.Frag) (C : Addr) (G : Form → Prop) : Sp := fun vs H Q _ => vs = [] ∧ Made K C G H Q
def spMk1 (K : PySem.W.Frag) (C BN : Addr) (G : Int → Form → Prop) : Sp := fun vs H Q E => ∃ v d, vs = [v] ∧ Dp K H v d ∧ (∀ n, d = .int n → Made K C (G n) H Q) ∧ (isI d = false → Rz BN [("value", v), ("what", .str "count")] H E)
theorem dp_int {H : Hp} {v : V} {d : PyData} (h : Dp K H v d) (i : isI d = true) : ∃ n, v = .int n ∧ d = .int n := by
  cases h with
  | int n => exact ⟨n, rfl, rfl⟩
  | _ => exact absurd (show false = true from i) Bool.false_ne_true
theorem row1 {H : Hp} {p : Addr} {x : Bool} : SqT K (upd H p (.tup [.bl x])) p (bls [x]) := sqT_new
theorem small_row {x : Bool} : ([x] : Row).length ≤ sizeLine := by show 1 ≤ sizeLine; decide
theorem ok_none {C : Addr} (h : Has K mg "none" s_none) (CK : Ck P w K mg base "Rounds" C 4 ["self", "start", "below", "middle", "above"] (spRi K C)) : Df P w K mg base 6 "none" [] (spMk0 K C (SF 0 false [] false)) := by
  refine h.df c_none (fun _ _ _ _ _ _ us hl => match us, hl with | [], _ => rfl) (fun vs H Q E z => by rw [z.1]; rfl) fun f cdv A outer s H vs Q E hr hs => ?_
  obtain ⟨rfl, q⟩ := hs
  refine ⟨_, (pss_one (ps_ret (pe_ck CK hr passL (by rfl) (pa_cons pe_int (pa_cons (pe_tup (pa_cons pe_bl pa_nil)) (pa_cons (pe_tup pa_nil) (pa_cons (pe_tup (pa_cons pe_bl pa_nil)) pa_nil))))))), ?_⟩
  refine ⟨(by show 1 ≤ sizeLine; decide), fun p1 n1 => ⟨(by show 0 ≤ sizeLine; decide), fun p2 n2 => ⟨(by show 1 ≤ sizeLine; decide), fun p3 n3 => ?_⟩⟩⟩
  have s1 := same_upd (o := .tup [.bl false]) n1
  have s2 := same_upd (o := .tup []) n2
  have s3 := same_upd (o := .tup [.bl false]) n3
  exact rounds_made (rb := [false]) (rm := []) (ra := [false]) (sqT_same row1 (s2.trans s3)) (.inr (sqT_same sqT_new s3)) row1 (by simp) (by simp) small_row (by show 0 ≤ sizeLine; decide) small_row fun F p H' hF s hR => q F p H' (sf_of hF) (s1.trans (s2.trans (s3.trans s))) hR
theorem ok_all_counts {C : Addr} (h : Has K mg "all_counts" s_all_counts) (CK : Ck P w K mg base "Rounds" C 4 ["self", "start", "below", "middle", "above"] (spRi K C)) : Df P w K mg base 6 "all_counts" [] (spMk0 K C (SF 0 true [] true)) := by
  refine h.df c_all_counts (fun _ _ _ _ _ _ us hl => match us, hl with | [], _ => rfl) (fun vs H Q E z => by rw [z.1]; rfl) fun f cdv A outer s H vs Q E hr hs => ?_
  obtain ⟨rfl, q⟩ := hs
  refine ⟨_, (pss_one (ps_ret (pe_ck CK hr passL (by rfl) (pa_cons pe_int (pa_cons (pe_tup (pa_cons pe_bl pa_nil)) (pa_cons (pe_tup pa_nil) (pa_cons (pe_tup (pa_cons pe_bl pa_nil)) pa_nil))))))), ?_⟩
  refine ⟨(by show 1 ≤ sizeLine; decide), fun p1 n1 => ⟨(by show 0 ≤ sizeLine; decide), fun p2 n2 => ⟨(by show 1 ≤ sizeLine; decide), fun p3 n3 => ?_⟩⟩⟩
  have s1 := same_upd (o := .tup [.bl true]) n1
  have s2 := same_upd (o := .tup []) n2
  have s3 := same_upd (o := .tup [.bl true]) n3
  exact rounds_made (rb := [true]) (rm := []) (ra := [true]) (sqT_same row1 (s2.trans s3)) (.inr (sqT_same sqT_new s3)) row1 (by simp) (by simp) small_row (by show 0 ≤ sizeLine; decide) small_row fun F p H' hF s hR => q F p H' (sf_of hF) (s1.trans (s2.trans (s3.trans s))) hR
theorem ok_just {C BN : Addr} (h : Has K mg "just" s_just) (CK : Ck P w K mg base "Rounds" C 4 ["self", "start", "below", "middle", "above"] (spRi K C)) (DC : Df P w K mg base 3 "check_int" ["what", "value"] (spCheck K BN)) :
    Df P w K mg base 6 "just" ["n"] (spMk1 K C BN fun n => SF n false [true] false) := by
  refine h.df c_just (fun _ _ _ _ _ _ us hl => match us, hl with | [_], _ => rfl) (fun vs H Q E ⟨_, _, e, _⟩ => by rw [e]; rfl) fun f cdv A outer s H vs Q E hr hs => ?_
  obtain ⟨v, d, rfl, hd, q, qE⟩ := hs
  refine ⟨_, (pss_cons (ps_expr (pe_df DC (hr.mono (by decide)) (thru rfl rfl rfl rfl) (by rfl) (pa_cons pe_str (pa_cons (pv 0) pa_nil))))
    (pss_one (ps_ret (pe_ck CK hr passL (by rfl) (pa_cons (pv 0) (pa_cons (pe_tup (pa_cons pe_bl pa_nil)) (pa_cons (pe_tup (pa_cons pe_bl pa_nil)) (pa_cons (pe_tup (pa_cons pe_bl pa_nil)) pa_nil)))))))), ?_⟩
  refine ⟨_, rfl, _, _, _, rfl, hd, fun hi => ?_, qE⟩
  obtain ⟨n, rfl, rfl⟩ := dp_int hd hi
  refine ⟨_, rfl, (by show 1 ≤ sizeLine; decide), fun p1 n1 => ⟨(by show 1 ≤ sizeLine; decide), fun p2 n2 => ⟨(by show 1 ≤ sizeLine; decide), fun p3 n3 => ?_⟩⟩⟩
  have s1 := same_upd (o := .tup [.bl false]) n1
  have s2 := same_upd (o := .tup [.bl true]) n2
  have s3 := same_upd (o := .tup [.bl false]) n3
  exact rounds_made (rb := [false]) (rm := [true]) (ra := [false]) (sqT_same row1 (s2.trans s3)) (.inr (sqT_same row1 s3)) row1 (by simp) (by simp) small_row small_row small_row fun F p H' hF s hR => q n rfl F p H' (sf_of hF) (s1.trans (s2.trans (s3.trans s))) hR
theorem ok_at_least {C BN : Addr} (h : Has K mg "at_least" s_at_least) (CK : Ck P w K mg base "Rounds" C 4 ["self", "start", "below", "middle", "above"] (spRi K C)) (DC : Df P w K mg base 3 "check_int" ["what", "value"] (spCheck K BN)) :
    Df P w K mg base 6 "at_least" ["n"] (spMk1 K C BN fun n => SF n false [] true) := by
  refine h.df c_at_least (fun _ _ _ _ _ _ us hl => match us, hl with | [_], _ => rfl) (fun vs H Q E ⟨_, _, e, _⟩ => by rw [e]; rfl) fun f cdv A outer s H vs Q E hr hs => ?_
  obtain ⟨v, d, rfl, hd, q, qE⟩ := hs
  refine ⟨_, (pss_cons (ps_expr (pe_df DC (hr.mono (by decide)) (thru rfl rfl rfl rfl) (by rfl) (pa_cons pe_str (pa_cons (pv 0) pa_nil))))
    (pss_one (ps_ret (pe_ck CK hr passL (by rfl) (pa_cons (pv 0) (pa_cons (pe_tup (pa_cons pe_bl pa_nil)) (pa_cons (pe_tup pa_nil) (pa_cons (pe_tup (pa_cons pe_bl pa_nil)) pa_nil)))))))), ?_⟩
  refine ⟨_, rfl, _, _, _, rfl, hd, fun hi => ?_, qE⟩
  obtain ⟨n, rfl, rfl⟩ := dp_int hd hi
  refine ⟨_, rfl, (by show 1 ≤ sizeLine; decide), fun p1 n1 => ⟨(by show 0 ≤ sizeLine; decide), fun p2 n2 => ⟨(by show 1 ≤ sizeLine; decide), fun p3 n3 => ?_⟩⟩⟩
  have s1 := same_upd (o := .tup [.bl false]) n1
  have s2 := same_upd (o := .tup []) n2
  have s3 := same_upd (o := .tup [.bl true]) n3
  exact rounds_made (rb := [false]) (rm := []) (ra := [true]) (sqT_same row1 (s2.trans s3)) (.inr (sqT_same sqT_new s3)) row1 (by simp) (by simp) small_row (by show 0 ≤ sizeLine; decide) small_row fun F p H' hF s hR => q n rfl F p H' (sf_of hF) (s1.trans (s2.trans (s3.trans s))) hR
theorem ok_at_most {C BN : Addr} (h : Has K mg "at_most" s_at_most) (CK : Ck P w K mg base "Rounds" C 4 ["self", "start", "below", "middle", "above"] (spRi K C)) (DC : Df P w K mg base 3 "check_int" ["what", "value"] (spCheck K BN)) :
    Df P w K mg base 6 "at_most" ["n"] (spMk1 K C BN fun n => SF (n + 1) true [] false) := by
  refine h.df c_at_most (fun _ _ _ _ _ _ us hl => match us, hl with | [_], _ => rfl) (fun vs H Q E ⟨_, _, e, _⟩ => by rw [e]; rfl) fun f cdv A outer s H vs Q E hr hs => ?_
  obtain ⟨v, d, rfl, hd, q, qE⟩ := hs
  refine ⟨_, (pss_cons (ps_expr (pe_df DC (hr.mono (by decide)) (thru rfl rfl rfl rfl) (by rfl) (pa_cons pe_str (pa_cons (pv 0) pa_nil))))
    (pss_one (ps_ret (pe_ck CK hr passL (by rfl) (pa_cons (pe_op op_add (pv 0) pe_int) (pa_cons (pe_tup (pa_cons pe_bl pa_nil)) (pa_cons (pe_tup pa_nil) (pa_cons (pe_tup (pa_cons pe_bl pa_nil)) pa_nil)))))))), ?_⟩
  refine ⟨_, rfl, _, _, _, rfl, hd, fun hi => ?_, qE⟩
  obtain ⟨n, rfl, rfl⟩ := dp_int hd hi
  refine ⟨_, rfl, _, _, rfl, rfl, (by show 1 ≤ sizeLine; decide), fun p1 n1 => ⟨(by show 0 ≤ sizeLine; decide), fun p2 n2 => ⟨(by show 1 ≤ sizeLine; decide), fun p3 n3 => ?_⟩⟩⟩
  have s1 := same_upd (o := .tup [.bl true]) n1
  have s2 := same_upd (o := .tup []) n2
  have s3 := same_upd (o := .tup [.bl false]) n3
  exact rounds_made (rb := [true]) (rm := []) (ra := [false]) (sqT_same row1 (s2.trans s3)) (.inr (sqT_same sqT_new s3)) row1 (by simp) (by simp) small_row (by show 0 ≤ sizeLine; decide) small_row fun F p H' hF s hR => q n rfl F p H' (sf_of hF) (s1.trans (s2.trans (s3.trans s))) hR
end
end Rk
set_option maxHeartbeats 4000000
/-! The program's defs, sixth part: between, every, listed. -/
namespace Rk
open PySem PySem.Spec PyProof.Rows L2

theorem rep_flat (k : Nat) (x : Bool) : (List.replicate k (bls [x])).flatten = bls (List.replicate k x) := by
  show (List.replicate k [V.bl x]).flatten = (List.replicate k x).map V.bl
  rw [List.flatten_replicate_singleton, List.map_replicate]
/-- how many numbers a range has -/
def manyN (lo hi : Int) : Nat := (hi - lo + 1).toNat
def spBetween (K : PySem.W.Frag) (C BN TM : Addr) : Sp := fun vs H Q E => ∃ v1 d1 v2 d2, vs = [v1, v2] ∧ Dp K H v1 d1 ∧ Dp K H v2 d2 ∧ (isI d1 = false → Rz BN [("value", v1), ("what", .str "low")] H E) ∧
  (isI d1 = true → isI d2 = false → Rz BN [("value", v2), ("what", .str "high")] H E) ∧
  ∀ lo hi, d1 = .int lo → d2 = .int hi → (20000 < manyN lo hi → Rz TM [("limit", .int 20000), ("what", .str "middle")] H E) ∧ (manyN lo hi ≤ 20000 → Made K C (SF lo false (List.replicate (manyN lo hi) true) false) H Q)
section
variable {P : Program} {w : World} {K : PySem.W.Frag} {mg : Str → Option Value} {base : Heap}
theorem ok_between {C BN TM : Addr} {tL : Tok} (h : Has K mg "between" s_between) (T : Tx K mg) (LM : mg "LIMIT" = some (.int 20000 tL)) (CK : Ck P w K mg base "Rounds" C 4 ["self", "start", "below", "middle", "above"] (spRi K C)) (DC : Df P w K mg base 3 "check_int" ["what", "value"] (spCheck K BN))
    (BT : ErD P w K mg base "TooMany" TM 1 ["self", "what", "limit"] (spEr TM 2 (fs2 "what" "limit"))) : Df P w K mg base 6 "between" ["low", "high"] (spBetween K C BN TM) := by
  refine h.df c_between (fun _ _ _ _ _ _ us hl => match us, hl with | [_, _], _ => rfl) (fun vs H Q E ⟨_, _, _, _, e, _⟩ => by rw [e]; rfl) fun f cdv A outer s H vs Q E hr hs => ?_
  obtain ⟨v1, d1, v2, d2, rfl, hd1, hd2, q1, q2, q⟩ := hs
  refine ⟨_, (pss_cons (ps_expr (pe_df DC (hr.mono (by decide)) (thru rfl rfl rfl rfl) (by rfl) (pa_cons pe_str (pa_cons (pv 0) pa_nil))))
    (pss_cons (ps_expr (pe_df DC (hr.mono (by decide)) (thru rfl rfl rfl rfl) (by rfl) (pa_cons pe_str (pa_cons (pv 1) pa_nil))))
    (pss_cons (ps_set (i := 2) c_between.nd rfl (.inl rfl) (pe_callB (call_max2 rfl) (by rfl) T.max boot_max (pa_cons pe_int (pa_cons (pe_op op_add (pe_op op_sub (pv 1) (pv 0)) pe_int) pa_nil))))
    (pss_cons (ps_if (pt_cmpR op_gt (pv 2) (pe_glob (v := .int 20000) (by rfl) LM ⟨_, rfl⟩) (nomark _)) (pss_one (ps_raise rfl (takes_of rfl rfl rfl rfl) (pmk_er BT (hr.mono (by decide)) (by rfl) (pa_cons pe_str (pa_cons (pe_glob (v := .int 20000) (by rfl) LM ⟨_, rfl⟩) pa_nil))))) pss_nil)
    (pss_one (ps_ret (pe_ck CK hr passL (by rfl) (pa_cons (pv 0) (pa_cons (pe_tup (pa_cons pe_bl pa_nil)) (pa_cons (pe_op op_mulQ (pe_tup (pa_cons pe_bl pa_nil)) (pv 2)) (pa_cons (pe_tup (pa_cons pe_bl pa_nil)) pa_nil))))))))))), ?_⟩
  refine ⟨_, rfl, _, _, _, rfl, hd1, fun hi1 => ?_, q1⟩
  refine ⟨_, rfl, _, _, _, rfl, hd2, fun hi2 => ?_, q2 hi1⟩
  obtain ⟨lo, rfl, rfl⟩ := dp_int hd1 hi1
  obtain ⟨hi, rfl, rfl⟩ := dp_int hd2 hi2
  obtain ⟨q3, q4⟩ := q lo hi rfl rfl
  refine ⟨_, rfl, _, rfl, _, _, rfl, rfl, _, _, rfl, rfl, _, _, rfl, ?_⟩
  have em : (if hi - lo + 1 > 0 then hi - lo + 1 else 0) = ((manyN lo hi : Nat) : Int) := by
    unfold manyN
    split <;> omega
  rw [em]
  refine ⟨_, rfl, _, _, rfl, rfl, _, rfl, ?_⟩
  by_cases hm : 20000 < manyN lo hi
  · exact iteBT (decide_eq_true (by omega)) (rz_make (n := 2) (ws := [.str "middle", .int 20000]) rfl (by decide) (q3 hm))
  · refine iteBF (decide_eq_false (by omega)) ?_
    refine ⟨_, rfl, (by show 1 ≤ sizeLine; decide), fun p1 n1 => ⟨(by show 1 ≤ sizeLine; decide), fun p2 n2 => ?_⟩⟩
    have s1 := same_upd (o := .tup [.bl false]) n1
    have s2 := same_upd (o := .tup [.bl true]) n2
    refine ⟨_, rfl, p2, _, _, rfl, rfl, row1, (by simp [bls]), (by show 1 ≤ 1000; decide), (by omega), (by show (1 : Int) * _ ≤ _; omega), (by omega), fun p3 H3 s3 t3 => ⟨(by show 1 ≤ sizeLine; decide), fun p4 n4 => ?_⟩⟩
    have s4 := same_upd (o := .tup [.bl false]) n4
    rw [rep_flat, Int.toNat_natCast] at t3
    have hz : (List.replicate (manyN lo hi) true).length ≤ sizeLine := by
      rw [List.length_replicate]
      exact Nat.le_trans (by omega) (show 20000 ≤ sizeLine by decide)
    exact rounds_made (rb := [false]) (rm := List.replicate (manyN lo hi) true) (ra := [false]) (sqT_same row1 (s2.trans (s3.trans s4))) (.inr (sqT_same t3 s4)) row1 (by simp) (by simp) small_row hz small_row
      fun F p H' hF s hR => q4 (by omega) F p H' (sf_of hF) (s1.trans (s2.trans (s3.trans (s4.trans s)))) hR

/-! ### every -/
def spEvery (K : PySem.W.Frag) (C BN : Addr) : Sp := fun vs H Q E => ∃ v1 d1 v2 d2, vs = [v1, v2] ∧ Dp K H v1 d1 ∧ Dp K H v2 d2 ∧ (isI d1 = false → Rz BN [("value", v1), ("what", .str "modulus")] H E) ∧
  (∀ m, d1 = .int m → ¬ (1 ≤ m ∧ m ≤ 20000) → Rz BN [("value", v1), ("what", .str "modulus")] H E) ∧
  ∀ m : Nat, d1 = .int m → 1 ≤ m → m ≤ 20000 → (isI d2 = false → Rz BN [("value", v2), ("what", .str "rest")] H E) ∧
    ∀ r, d2 = .int r → ∀ p H', Same H H' → Rou K C H' p (0, hot m (r % m).toNat, [], hot m (r % m).toNat) → Q (.ref p) H'
theorem map_hot (m k : Nat) : (List.range m).map (fun j => V.bl (decide (j = k))) = bls (hot m k) := by
  unfold hot bls
  rw [List.map_map]
  rfl
theorem ok_every {C BN : Addr} {tL : Tok} (h : Has K mg "every" s_every) (T : Tx K mg) (LM : mg "LIMIT" = some (.int 20000 tL)) (CK : Ck P w K mg base "Rounds" C 4 ["self", "start", "below", "middle", "above"] (spRi K C)) (DI : Df P w K mg base 1 "is_int" ["value"] (spIsInt K)) (DC : Df P w K mg base 3 "check_int" ["what", "value"] (spCheck K BN))
    (BE : ErD P w K mg base "BadNumber" BN 1 ["self", "what", "value"] (spEr BN 2 (fs2 "what" "value"))) : Df P w K mg base 6 "every" ["m", "r"] (spEvery K C BN) := by
  refine h.df c_every (fun _ _ _ _ _ _ us hl => match us, hl with | [_, _], _ => rfl) (fun vs H Q E ⟨_, _, _, _, e, _⟩ => by rw [e]; rfl) fun f cdv A outer s H vs Q E hr hs => ?_
  obtain ⟨v1, d1, v2, d2, rfl, hd1, hd2, q1, q2, q⟩ := hs
  refine ⟨_, (pss_cons (ps_if (PW.pt (pw_or (pt_not (pt_val (pe_df DI (hr.mono (by decide)) passL (by rfl) (pa_cons (pv 0) pa_nil)))) (pw_or1 (pt_not (pt_chain op_le op_le pe_int (pv 0) (pe_glob (v := .int 20000) (by rfl) LM ⟨_, rfl⟩)))))) (pss_one (ps_raise rfl (takes_of rfl rfl rfl rfl) (pmk_er BE (hr.mono (by decide)) (by rfl) (pa_cons pe_str (pa_cons (pv 0) pa_nil))))) pss_nil)
    (pss_cons (ps_expr (pe_df DC (hr.mono (by decide)) (thru rfl rfl rfl rfl) (by rfl) (pa_cons pe_str (pa_cons (pv 1) pa_nil))))
    (pss_cons (ps_set (i := 2) c_every.nd rfl (.inl rfl) (pe_callTy (tupS (K := K) rfl) (by rfl) T.tuple boot_tuple (pa_cons (pe_lc (own := [("at", 3)]) (g := gName 3) (tt := tYes) rfl c_every.nd (pi_rg1 (by rfl) T.range (pa_cons (pv 0) pa_nil)) (blkOk_by (N := n_every) (sc := defScope s_every) (by decide +kernel)) (fun _ _ _ _ _ => pg_name (i := 3) c_every.nd rfl (Or.inl rfl)) (fun _ _ _ _ _ => pts_nil) (fun _ _ _ _ _ => (pe_cmpR op_eq (pv 3) (pe_op op_mod (pv 1) (pv 0)) (nomark _)))) pa_nil)))
    (pss_one (ps_ret (pe_ck CK hr passL (by rfl) (pa_cons pe_int (pa_cons (pv 2) (pa_cons (pe_tup pa_nil) (pa_cons (pv 2) pa_nil)))))))))), ?_⟩
  refine ⟨_, rfl, v1, d1, rfl, hd1, _, rfl, ?_⟩
  cases hi : isI d1 with
  | false => exact iteBT rfl ⟨_, rfl, rz_make (n := 2) rfl (by decide) (q1 hi)⟩
  | true =>
    obtain ⟨m, rfl, rfl⟩ := dp_int hd1 hi
    refine iteBF rfl ?_
    refine ⟨_, rfl, _, _, rfl, rfl, _, rfl, ?_⟩
    by_cases h1 : 1 ≤ m
    · refine iteBT (decide_eq_true h1) ?_
      refine ⟨_, _, rfl, rfl, _, rfl, ?_⟩
      by_cases h2 : m ≤ 20000
      · refine iteBF (by rw [decide_eq_true h2]; rfl) ?_
        obtain ⟨mn, rfl⟩ : ∃ mn : Nat, m = mn := ⟨m.toNat, by omega⟩
        obtain ⟨q3, q4⟩ := q mn rfl (by omega) (by omega)
        refine ⟨_, rfl, _, _, _, rfl, hd2, fun hi2 => ?_, q3⟩
        obtain ⟨r, rfl, rfl⟩ := dp_int hd2 hi2
        have hmp : 0 < mn := by omega
        have r0 := Int.emod_nonneg r (show (mn : Int) ≠ 0 by omega)
        have r1 := Int.emod_lt_of_pos r (show (0 : Int) < mn by omega)
        refine ⟨_, rfl, _, rfl, ?_⟩
        refine lcR (i := 3) (n := (mn : Int).toNat) (fun j => .bl (decide (j = (r % mn).toNat))) (Nat.le_trans (by omega) (show 20000 ≤ sizeLine by decide)) (fun j H' Qy hj s1 qy => ?_) fun L0 H1 n1 s1 e1 => ?_
        · refine ⟨_, rfl, _, rfl, _, rfl, _, _, rfl, rfl, (by omega : (0 : Int) < mn), rfl, ?_⟩
          have e : decide (V.int (0 + (j : Int)) = V.int (r % mn)) = decide (j = (r % mn).toNat) := by
            by_cases z : j = (r % mn).toNat
            · rw [decide_eq_true z, decide_eq_true (congrArg V.int (by omega))]
            · rw [decide_eq_false z, decide_eq_false fun y => z (by have := V.int.inj y; omega)]
          rw [e]
          exact qy H' (Same.refl H')
        · rw [Int.toNat_natCast, map_hot] at e1
          refine ⟨L0, _, rfl, .inl (sqL_at e1), fun p2 H2 s2 t2 => ?_⟩
          refine ⟨_, rfl, (by show 0 ≤ sizeLine; decide), fun p3 n3 => ⟨_, rfl, ?_⟩⟩
          have s3 := same_upd (o := .tup []) n3
          have hk : (r % (mn : Int)).toNat < mn := by omega
          have hz : (hot mn (r % mn).toNat).length ≤ sizeLine := by
            rw [hot_length]
            exact Nat.le_trans (by omega) (show 20000 ≤ sizeLine by decide)
          exact rounds_made (rb := hot mn (r % mn).toNat) (rm := []) (ra := hot mn (r % mn).toNat) (sqT_same t2 s3) (.inr sqT_new) (sqT_same t2 s3) (hot_ne hmp) (hot_ne hmp) hz (by show 0 ≤ sizeLine; decide) hz
            fun F p H' hF s hR => q4 r rfl p H' (s1.trans (s2.trans (s3.trans s))) (by rw [form_word (hot_ne hmp) (by rw [lstep_hot hk, hot_length]) hF] at hR; exact hR)
      · refine iteBT (by rw [decide_eq_false h2]; rfl) ⟨_, rfl, rz_make (n := 2) rfl (by decide) (q2 m rfl fun z => h2 z.2)⟩
    · refine iteBF (decide_eq_false h1) ⟨_, rfl, ?_⟩
      exact iteBT rfl ⟨_, rfl, rz_make (n := 2) rfl (by decide) (q2 m rfl fun z => h1 z.1)⟩
end
end Rk
set_option maxHeartbeats 4000000
/-! The program's defs, seventh part: listed. -/
namespace Rk
open PySem PySem.Spec PyProof.Rows L2

/-- a walk over a list or over a tuple -/
def iEi (K : PySem.W.Frag) (tl : TE) : TI := fun σ H R => iList K tl σ H R ∨ iTup K tl σ H R
theorem piE {X : Cx} {K : PySem.W.Frag} {tg l : Expr} {tl : TE} (h : X.K = K) (hl : PE X l tl) : PI X tg l (iEi K tl) := ⟨fun pins s σ H R I q => q.elim ((piL h hl).run pins s σ H R I) ((piT h hl).run pins s σ H R I)⟩
def isIV : V → Bool
  | .int _ => true
  | _ => false
theorem isI_V {K : PySem.W.Frag} {H : Hp} {v : V} {d : PyData} (h : Dp K H v d) : isI d = isIV v := by cases h <;> rfl
theorem dpAll_get {K : PySem.W.Frag} {H : Hp} : ∀ {xs : List V} {ds : List PyData} {j : Nat} {x : V}, DpAll K H xs ds → xs[j]? = some x → ∃ d, ds[j]? = some d ∧ Dp K H x d
  | _, _, _, _, .nil, e => by simp at e
  | _, _, 0, _, .cons a _, e => by
    simp at e
    subst e
    exact ⟨_, rfl, a⟩
  | _, _, j + 1, x, .cons _ r, e => by
    obtain ⟨d, h1, h2⟩ := dpAll_get (j := j) (x := x) r (by simpa using e)
    exact ⟨d, by simpa using h1, h2⟩
theorem dpAll_any {K : PySem.W.Frag} {H : Hp} : ∀ {xs : List V} {ds : List PyData}, DpAll K H xs ds → (xs.map fun x => !isIV x).any id = ds.any fun d => !isI d
  | _, _, .nil => rfl
  | _, _, .cons (v := v) (d := d) a r => by
    rw [List.map_cons, List.any_cons, List.any_cons, dpAll_any r, isI_V a]
    rfl
theorem dpAll_ints {K : PySem.W.Frag} {H : Hp} : ∀ ns : List Int, DpAll K H (ns.map V.int) (ns.map PyData.int)
  | [] => .nil
  | n :: ns => .cons (.int n) (dpAll_ints ns)
theorem ints_any : ∀ ns : List Int, ((ns.map PyData.int).any fun d => !isI d) = false
  | [] => rfl
  | n :: ns => by
    rw [List.map_cons, List.any_cons, ints_any ns]
    rfl
def sizeD : PyData → Nat
  | .list ds => ds.length
  | .tuple ds => ds.length
  | _ => 0
theorem dpAll_len {K : PySem.W.Frag} {H : Hp} : ∀ {xs : List V} {ds : List PyData}, DpAll K H xs ds → xs.length = ds.length
  | _, _, .nil => rfl
  | _, _, .cons _ r => congrArg Nat.succ (dpAll_len r)
def badD : PyData → Bool
  | .list ds => ds.any fun d => !isI d
  | .tuple ds => ds.any fun d => !isI d
  | _ => true
/-- which of n numbers from lo on stand in the row -/
def trs (ns : List Int) (lo : Int) (n : Nat) : Row := (List.range n).map fun (k : Nat) => decide (lo + (k : Int) ∈ ns)
theorem trs_length (ns : List Int) (lo : Int) (n : Nat) : (trs ns lo n).length = n := by simp [trs]
theorem trs_get {ns : List Int} {lo : Int} {n k : Nat} (hk : k < n) : (trs ns lo n).getD k false = decide (lo + (k : Int) ∈ ns) := by
  unfold trs
  rw [List.getD_eq_getElem?_getD, List.getElem?_map, List.getElem?_range hk]
  rfl
theorem trs_nil (lo : Int) (n : Nat) : trs [] lo n = List.replicate n false := by
  refine List.ext_getElem? fun k => ?_
  unfold trs
  rw [List.getElem?_map, List.getElem?_replicate]
  by_cases hk : k < n
  · rw [List.getElem?_range hk, if_pos hk]
    simp
  · rw [List.getElem?_eq_none (by simpa using hk), if_neg hk]
    rfl
theorem trs_snoc {ns : List Int} {x lo : Int} {n k : Nat} (hx : x = lo + k) (hk : k < n) : (bls (trs ns lo n)).set k (V.bl true) = bls (trs (ns ++ [x]) lo n) := by
  refine List.ext_getElem? fun j => ?_
  unfold bls trs
  rw [List.getElem?_set, List.getElem?_map, List.getElem?_map, List.getElem?_map, List.getElem?_map]
  by_cases hj : j < n
  · rw [List.getElem?_range hj]
    by_cases he : k = j
    · subst he
      rw [if_pos rfl, if_pos (by simpa using hj)]
      simp [hx]
    · rw [if_neg he]
      simp only [Option.map_some, List.mem_append, List.mem_singleton]
      congr 2
      have : ¬ lo + (j : Int) = x := by omega
      simp [this]
  · rw [List.getElem?_eq_none (by simpa using hj)]
    rw [if_neg (by omega)]
    rfl
/-- a list of ints, or a tuple -/
def IntsAt (K : PySem.W.Frag) (H : Hp) (a : Addr) (ns : List Int) : Prop := SqL K H a (ns.map V.int) ∨ SqT K H a (ns.map V.int)
theorem IntsAt.same {K : PySem.W.Frag} {H H' : Hp} {a : Addr} {ns : List Int} (h : IntsAt K H a ns) (s : Same H H') : IntsAt K H' a ns := h.imp (fun z => sqL_same z s) fun z => sqT_same z s
def spListed (K : PySem.W.Frag) (C BR TM : Addr) : Sp := fun vs H Q E => ∃ v, vs = [v] ∧ ((∃ a ns, v = .ref a ∧ IntsAt K H a ns ∧ ns.length ≤ sizeLine ∧ (ns = [] → Made K C (SF 0 false [] false) H Q) ∧
    ∀ lo hi, lo ∈ ns → hi ∈ ns → (∀ y ∈ ns, lo ≤ y) → (∀ y ∈ ns, y ≤ hi) → (20000 ≤ hi - lo → Rz TM [("limit", .int 20000), ("what", .str "middle")] H E) ∧ (hi - lo < 20000 → Made K C (SF lo false (trs ns lo (hi - lo + 1).toNat) false) H Q)) ∨
  ∃ d, Dp K H v d ∧ badD d = true ∧ sizeD d ≤ 1000 ∧ Rz BR [("value", v)] H E)
section
variable {P : Program} {w : World} {K : PySem.W.Frag} {mg : Str → Option Value} {base : Heap}
theorem ok_listed {C BR TM : Addr} {tL : Tok} (h : Has K mg "listed" s_listed) (T : Tx K mg) (LM : mg "LIMIT" = some (.int 20000 tL)) (CK : Ck P w K mg base "Rounds" C 4 ["self", "start", "below", "middle", "above"] (spRi K C)) (DI : Df P w K mg base 1 "is_int" ["value"] (spIsInt K)) (DW : Df P w K mg base 1 "is_row" ["value"] (spIsRow K))
    (DN : Df P w K mg base 6 "none" [] (spMk0 K C (SF 0 false [] false))) (BT : ErD P w K mg base "TooMany" TM 1 ["self", "what", "limit"] (spEr TM 2 (fs2 "what" "limit"))) (BB : ErD P w K mg base "BadRow" BR 1 ["self", "value"] (spEr BR 1 (fs1 "value"))) :
    Df P w K mg base 7 "listed" ["row"] (spListed K C BR TM) := by
  refine h.df c_listed (fun _ _ _ _ _ _ us hl => match us, hl with | [_], _ => rfl) (fun vs H Q E ⟨_, e, _⟩ => by rw [e]; rfl) fun f cdv A outer s H vs Q E hr hs => ?_
  obtain ⟨v, rfl, hs⟩ := hs
  have hr1 := hr.mono (show 1 ≤ 6 by decide)
  refine ⟨_, (pss_cons (ps_if (PW.pt (pw_or (pt_not (pt_val (pe_df DW hr1 passL (by rfl) (pa_cons (pv 0) pa_nil)))) (pw_or1 (pt_val (pe_callB (cr_any rfl) (by rfl) T.any boot_any (pa_cons (pe_lc (own := [("item", 4)]) (g := gName 4) (tt := tYes) rfl c_listed.nd (piE (K := K) rfl (pv 0)) (blkOk_by (N := n_listed) (sc := defScope s_listed) (by decide +kernel)) (fun _ _ _ _ _ => pg_name (i := 4) c_listed.nd rfl (Or.inl rfl)) (fun _ _ _ _ _ => pts_nil) (fun _ _ _ _ _ => (pe_not (pe_df DI (Room.mono hr1 (Nat.le_refl _)) passL (by rfl) (pa_cons (pv 4) pa_nil))))) pa_nil)))))) (pss_one (ps_raise rfl (takes_of rfl rfl rfl rfl) (pmk_er BB (hr.mono (by decide)) (by rfl) (pa_cons (pv 0) pa_nil)))) pss_nil)
    (pss_cons (ps_if (pt_cmpR op_eq (pe_callB (lenS (K := K) rfl) (by rfl) T.len boot_len (pa_cons (pv 0) pa_nil)) pe_int (nomark _)) (pss_one (ps_ret (pe_df0 DN hr passL (by rfl)))) pss_nil)
    (pss_cons (ps_par rfl c_listed.nd (i := 1) (j := 2) rfl rfl (by decide) rfl rfl (pa_cons (pe_callB (cr_minS rfl hr) (by rfl) T.min boot_min (pa_cons (pv 0) pa_nil)) (pa_cons (pe_callB (cr_maxS rfl hr) (by rfl) T.max boot_max (pa_cons (pv 0) pa_nil)) pa_nil)) (by rfl))
    (pss_cons (ps_if (pt_cmpR op_ge (pe_op op_sub (pv 2) (pv 1)) (pe_glob (v := .int 20000) (by rfl) LM ⟨_, rfl⟩) (nomark _)) (pss_one (ps_raise rfl (takes_of rfl rfl rfl rfl) (pmk_er BT (hr.mono (by decide)) (by rfl) (pa_cons pe_str (pa_cons (pe_glob (v := .int 20000) (by rfl) LM ⟨_, rfl⟩) pa_nil))))) pss_nil)
    (pss_cons (ps_set (i := 3) c_listed.nd rfl (.inl rfl) (pe_op op_rep (pe_lst (pa_cons pe_bl pa_nil)) (pe_op op_add (pe_op op_sub (pv 2) (pv 1)) pe_int)))
    (pss_cons (ps_for (passes_of rfl) rfl (piE (K := K) rfl (pv 0)) (pg_name (i := 4) c_listed.nd rfl (.inl rfl)) (pss_one (ps_asg pe_bl (pg_sub (pv 3) (pe_op op_sub (pv 4) (pv 1)) set_list))))
    (pss_one (ps_ret (pe_ck CK (hr.mono (by decide)) passL (by rfl) (pa_cons (pv 1) (pa_cons (pe_tup (pa_cons pe_bl pa_nil)) (pa_cons (pv 3) (pa_cons (pe_tup (pa_cons pe_bl pa_nil)) pa_nil))))))))))))), ?_⟩
  -- the comprehension over the row's items
  have comp : ∀ {xs : List V} {ds : List PyData} {H1 : Hp} {a : Addr} {Qt : VK}, DpAll K H1 xs ds → xs.length ≤ sizeLine → (SqL K H1 a xs ∨ SqT K H1 a xs) → v = .ref a → (∀ H2, Same H1 H2 → Qt (.bl (ds.any fun d => !isI d)) H2) →
      (tCB (rAny K) (tCons (tLc (iEi K (tVar 0)) (gName 4) tYes (tNotV (tC (spIsInt K) E0 (tCons (tVar 4) tNil))) [4]) tNil)) [some v, none, none, none, none] H1 Qt := by
    intro xs ds H1 a Qt hd hz hx hv qt
    have one : ∀ (j : Nat) (x : V) (H' : Hp) (Qy : VK), xs[j]? = some x → Same H1 H' → (∀ H'', Same H' H'' → Qy (.bl (!isIV x)) H'') → (tNotV (tC (spIsInt K) E0 (tCons (tVar 4) tNil))) ([some v, none, none, none, none].set 4 (some x)) H' Qy := fun j x H' Qy hx s1 qy => by
      obtain ⟨d, _, hxd⟩ := dpAll_get hd hx
      refine ⟨_, rfl, x, d, rfl, dp_same hxd s1, _, rfl, ?_⟩
      rw [isI_V hxd]
      exact qy H' (Same.refl H')
    have last : ∀ D H', H1 D = none → Same H1 H' → H' D = some (.lst (xs.map fun x => V.bl (!isIV x))) → (fun D H2 => tNil [some v, none, none, none, none] H2 fun vs H3 => rAny K (V.ref D :: vs) H3 Qt) D H' := fun D H' n1 s1 e1 => by
      refine ⟨D, xs.map fun x => !isIV x, rfl, sqL_at ?_, ?_⟩
      · rw [e1, List.map_map]
        rfl
      · rw [dpAll_any hd]
        exact qt H' s1
    rcases hx with hx | hx
    · refine .inl ⟨v, rfl, a, hv, ⟨_, hx⟩, ?_⟩
      exact lcLF (K := K) (i := 4) (tt := tYes) (fun _ => true) (fun x => .bl (!isIV x)) hz hx (fun j x H' Qb _ _ qb => qb H' (Same.refl H')) (fun j x H' Qy hx _ s1 qy => one j x H' Qy hx s1 qy) fun D H' n1 s1 e1 => last D H' n1 s1 (by rw [e1, List.filter_eq_self.mpr fun _ _ => rfl])
    · refine .inr ⟨v, rfl, a, hv, ⟨_, hx⟩, ?_⟩
      exact lcT (K := K) (i := 4) (fun x => .bl (!isIV x)) hz hx one last
  rcases hs with ⟨a, ns, rfl, ha, hz, q0, q⟩ | ⟨d, hd, hbad, hdep, qE⟩
  · -- a row of ints
    have hdp : ∃ d, Dp K H (.ref a) d ∧ isRowD d = true := by
      rcases ha with ha | ha
      · exact ⟨_, .lst ha (dpAll_ints ns), rfl⟩
      · exact ⟨_, .tup ha (dpAll_ints ns), rfl⟩
    obtain ⟨d, hd, hrow⟩ := hdp
    refine ⟨_, rfl, _, d, rfl, hd, fun H1 s1 => ⟨_, rfl, ?_⟩⟩
    refine iteBF (by rw [hrow]; rfl) ?_
    have ha1 := ha.same s1
    refine comp (dpAll_ints ns) (by rw [List.length_map]; exact hz) ha1 rfl fun H2 s2 => ⟨_, rfl, ?_⟩
    refine iteBF (ints_any ns) ?_
    have ha2 := ha1.same s2
    have s12 := s1.trans s2
    refine ⟨_, rfl, a, _, rfl, ha2, rfl, _, rfl, ?_⟩
    by_cases hn : ns = []
    · subst hn
      exact iteBT rfl ⟨rfl, fun F p H' hF s hR => q0 rfl F p H' hF (s12.trans s) hR⟩
    · refine iteBF (decide_eq_false fun z => ?_) ?_
      · have := V.int.inj z
        rw [List.length_map] at this
        have := List.length_pos_iff.mpr hn
        omega
      refine ⟨_, rfl, a, ns, rfl, ha2, hn, fun lo hlo1 hlo2 => ⟨_, rfl, a, ns, rfl, ha2, hn, fun hi hhi1 hhi2 => ?_⟩⟩
      obtain ⟨q1, q2⟩ := q lo hi hlo1 hhi1 hlo2 hhi2
      have hlh := hlo2 hi hhi1
      refine ⟨_, _, rfl, ?_⟩
      refine ⟨_, rfl, _, rfl, _, _, rfl, rfl, _, _, rfl, rfl, _, rfl, ?_⟩
      by_cases hm : 20000 ≤ hi - lo
      · exact iteBT (decide_eq_true hm) (rz_make (n := 2) (ws := [.str "middle", .int 20000]) rfl (by decide) ((q1 hm).same s12))
      · refine iteBF (decide_eq_false hm) ?_
        refine ⟨(by show 1 ≤ sizeLine; decide), fun p1 n1 => ?_⟩
        have s3 := same_upd (o := .lst [.bl false]) n1
        refine ⟨_, rfl, _, rfl, _, _, rfl, rfl, _, _, rfl, rfl, p1, _, _, rfl, rfl, upd_same, (by omega), (by omega), ?_, fun L nL => ?_⟩
        · show 1 * (hi - lo + 1).toNat ≤ sizeLine
          exact Nat.le_trans (by omega) (show 20000 ≤ sizeLine by decide)
        have s4 := same_upd (o := .lst (List.replicate (hi - lo + 1).toNat [V.bl false]).flatten) nL
        have sL := s12.trans (s3.trans s4)
        have nL0 : (upd H2 p1 (.lst [.bl false])) L = none := nL
        generalize hH5 : upd (upd H2 p1 (.lst [.bl false])) L (.lst (List.replicate (hi - lo + 1).toNat [V.bl false]).flatten) = H5 at sL
        have eL : H5 L = some (.lst (bls (trs (ns.take 0) lo (hi - lo + 1).toNat))) := by
          rw [← hH5, upd_same, List.take_zero, trs_nil, show [V.bl false] = bls [false] from rfl, rep_flat]
        have ha5 : IntsAt K (upd H2 p1 (.lst [.bl false])) a ns := ha2.same s3
        have base5 : ∀ c o, (upd H2 p1 (.lst [.bl false])) c = some o → H5 c = some o := fun c o e => by
          rw [← hH5, upd_ne (ne_of_none e nL0)]
          exact e
        -- the loop
        have turn : ∀ (i : Nat) (x : V) (σ : L2.St) (H' : Hp) (N : L2.St → Hp → Prop), (ns.map V.int)[i]? = some x →
            ((∃ z, σ = [some (.ref a), some (.int lo), some (.int hi), some (.ref L), z]) ∧ Same (upd H2 p1 (.lst [.bl false])) H' ∧ H' L = some (.lst (bls (trs (ns.take i) lo (hi - lo + 1).toNat)))) →
            (∀ σ' H', ((∃ z, σ' = [some (.ref a), some (.int lo), some (.int hi), some (.ref L), z]) ∧ Same (upd H2 p1 (.lst [.bl false])) H' ∧ H' L = some (.lst (bls (trs (ns.take (i + 1)) lo (hi - lo + 1).toNat)))) → N σ' H') →
            gName 4 x σ H' fun σ2 H2 => tAsg (L2.tC (.bl true)) (gSub (tVar 3) (tOp (rI0 fun i j => .int (i - j)) (tVar 4) (tVar 1)) rSetL) { nx := N, rt := Q, bk := fun _ _ => False, ct := N } σ2 H2 := fun i x σ H' N hx hp hN => by
          obtain ⟨⟨z, rfl⟩, s6, e6⟩ := hp
          rw [List.getElem?_map] at hx
          obtain ⟨n, hn2, rfl⟩ := Option.map_eq_some_iff.mp hx
          have hmem : n ∈ ns := List.mem_of_getElem? hn2
          have b1 := hlo2 n hmem
          have b2 := hhi2 n hmem
          refine ⟨_, rfl, _, rfl, _, rfl, _, _, rfl, rfl, L, _, n - lo, (n - lo).toNat, rfl, rfl, e6, ?_, ?_⟩
          · unfold ixN
            rw [if_pos (by omega), if_pos (by rw [bls_len, trs_length]; omega)]
          · refine hN _ _ ⟨⟨some (.int n), rfl⟩, fun c o e => ?_, ?_⟩
            · rw [upd_ne (ne_of_none e nL0)]
              exact s6 c o e
            · rw [upd_same, trs_snoc (x := n) (by omega) (by omega), List.take_add_one, hn2]
              rfl
        have fin : ∀ σ H', ((∃ z, σ = [some (.ref a), some (.int lo), some (.int hi), some (.ref L), z]) ∧ Same (upd H2 p1 (.lst [.bl false])) H' ∧ H' L = some (.lst (bls (trs (ns.take (ns.map V.int).length) lo (hi - lo + 1).toNat)))) →
            tRet (tMk C (spRi K C) E0 (tCons (tVar 1) (tCons (tTup (tCons (L2.tC (.bl false)) tNil)) (tCons (tVar 3) (tCons (tTup (tCons (L2.tC (.bl false)) tNil)) tNil))))) { nx := fun _ H' => Q .non H', rt := Q } σ H' := fun σ H' hp => by
          obtain ⟨⟨z, rfl⟩, s6, e6⟩ := hp
          rw [List.length_map, List.take_length] at e6
          refine ⟨_, rfl, (by show 1 ≤ sizeLine; decide), fun p2 n2 => ⟨_, rfl, (by show 1 ≤ sizeLine; decide), fun p3 n3 => ?_⟩⟩
          have s7 := same_upd (o := .tup [.bl false]) n2
          have s8 := same_upd (o := .tup [.bl false]) n3
          have hz2 : (trs ns lo (hi - lo + 1).toNat).length ≤ sizeLine := by
            rw [trs_length]
            exact Nat.le_trans (by omega) (show 20000 ≤ sizeLine by decide)
          exact rounds_made (rb := [false]) (rm := trs ns lo (hi - lo + 1).toNat) (ra := [false]) (sqT_same row1 s8) (.inl (sqL_same (sqL_at e6) (s7.trans s8))) row1 (by simp) (by simp) small_row hz2 small_row
            fun F p H'' hF s hR => q2 (by omega) F p H'' (sf_of hF) (s12.trans (s3.trans (s6.trans (s7.trans (s8.trans s))))) hR
        have h0 : (∃ z, [some (.ref a), some (.int lo), some (.int hi), some (.ref L), none] = [some (.ref a), some (.int lo), some (.int hi), some (V.ref L), z]) ∧ Same (upd H2 p1 (.lst [.bl false])) H5 ∧ H5 L = some (.lst (bls (trs (ns.take 0) lo (hi - lo + 1).toNat))) := ⟨⟨_, rfl⟩, base5, eL⟩
        rcases ha5 with ha5 | ha5
        · refine .inl ⟨_, rfl, a, rfl, ⟨_, sqL_same ha5 base5⟩, ?_⟩
          exact for_list (K := K) (a := a) (xs := ns.map V.int) (fun i σ H' => (∃ z, σ = [some (.ref a), some (.int lo), some (.int hi), some (.ref L), z]) ∧ Same (upd H2 p1 (.lst [.bl false])) H' ∧ H' L = some (.lst (bls (trs (ns.take i) lo (hi - lo + 1).toNat))))
            h0 (fun i σ H' _ hp => sqL_same ha5 hp.2.1) (fun i x σ H' hx hp => turn i x σ H' _ hx hp fun σ' H'' z => z) fin
        · refine .inr ⟨_, rfl, a, rfl, ⟨_, sqT_same ha5 base5⟩, ?_⟩
          exact for_tup (K := K) (a := a) (xs := ns.map V.int) (fun i σ H' => (∃ z, σ = [some (.ref a), some (.int lo), some (.int hi), some (.ref L), z]) ∧ Same (upd H2 p1 (.lst [.bl false])) H' ∧ H' L = some (.lst (bls (trs (ns.take i) lo (hi - lo + 1).toNat))))
            h0 (fun i σ H' _ hp => sqT_same ha5 hp.2.1) (fun i x σ H' hx hp => turn i x σ H' _ hx hp fun σ' H'' z => z) fin
  · -- no row of ints
    refine ⟨_, rfl, _, d, rfl, hd, fun H1 s1 => ⟨_, rfl, ?_⟩⟩
    have rows : ∀ {a : Addr} {xs : List V} {ds : List PyData}, v = .ref a → (SqL K H a xs ∨ SqT K H a xs) → DpAll K H xs ds → (ds.any fun d => !isI d) = true → ds.length ≤ 1000 → ∀ Qt : VK, (∀ H2, Same H1 H2 → Qt (.bl true) H2) →
        (tCB (rAny K) (tCons (tLc (iEi K (tVar 0)) (gName 4) tYes (tNotV (tC (spIsInt K) E0 (tCons (tVar 4) tNil))) [4]) tNil)) [some v, none, none, none, none] H1 Qt := fun {a xs ds} hv hx hda hany hz Qt qt =>
      comp (DpAll.same s1 ds xs hda) (by rw [dpAll_len hda]; exact Nat.le_trans hz (show 1000 ≤ sizeLine by decide)) (hx.imp (fun z => sqL_same z s1) fun z => sqT_same z s1) hv fun H2 s2 => by rw [hany]; exact qt H2 s2
    cases hd with
    | lst hs2 ha2 =>
      refine iteBF rfl (rows rfl (.inl hs2) ha2 hbad hdep _ fun H2 s2 => ⟨_, rfl, ?_⟩)
      exact iteBT rfl ⟨_, rfl, rz_make (n := 1) rfl (by decide) ((qE.same s1).same s2)⟩
    | tup hs2 ha2 =>
      refine iteBF rfl (rows rfl (.inr hs2) ha2 hbad hdep _ fun H2 s2 => ⟨_, rfl, ?_⟩)
      exact iteBT rfl ⟨_, rfl, rz_make (n := 1) rfl (by decide) ((qE.same s1).same s2)⟩
    | non => exact iteBT rfl (iteT ⟨_, rfl, rz_make (n := 1) rfl (by decide) (qE.same s1)⟩)
    | bl b => exact iteBT rfl (iteT ⟨_, rfl, rz_make (n := 1) rfl (by decide) (qE.same s1)⟩)
    | int i => exact iteBT rfl (iteT ⟨_, rfl, rz_make (n := 1) rfl (by decide) (qE.same s1)⟩)
    | str z => exact iteBT rfl (iteT ⟨_, rfl, rz_make (n := 1) rfl (by decide) (qE.same s1)⟩)
end
end Rk
set_option maxHeartbeats 4000000
/-! The program's defs, eighth part: questions to a Rounds; combined and the signs. -/
namespace Rk
open PySem PySem.Spec PyProof.Rows L2

/-- all but lists stand as they stood -/
def NL (H H' : Hp) : Prop := ∀ c o, H c = some o → (∀ xs, o ≠ .lst xs) → H' c = some o
theorem Same.nl {H H' : Hp} (s : Same H H') : NL H H' := fun c o e _ => s c o e
theorem sqT_nl {K : PySem.W.Frag} {H H' : Hp} {a : Addr} {xs : List V} (h : SqT K H a xs) (s : NL H H') : SqT K H' a xs := by
  rcases h with (h | ⟨o, h⟩) | h
  · exact .inl (.inl (s _ _ h fun ys z => by cases z))
  · exact .inl (.inr ⟨o, s _ _ h fun ys z => by cases z⟩)
  · exact .inr h
/-- a comprehension over a tuple, each item's value told by R -/
theorem lcTR {K : PySem.W.Frag} {a : Addr} {xs : List V} {te : TE} {i : Nat} {σ : L2.St} {H1 : Hp} {Qd : Addr → Hp → Prop} (R : Nat → V → Hp → Prop) (hR : ∀ j y H H', R j y H → NL H H' → R j y H') (hn : xs.length ≤ sizeLine) (ha : SqT K H1 a xs)
    (hs : ∀ (j : Nat) (x : V) (H' : Hp) (Qy : VK), xs[j]? = some x → Same H1 H' → (∀ y H'', Same H' H'' → R j y H'' → Qy y H'') → te (σ.set i (some x)) H' Qy)
    (hd : ∀ D H' ys, H1 D = none → Same H1 H' → H' D = some (.lst ys) → ys.length = xs.length → (∀ j y, ys[j]? = some y → R j y H') → Qd D H') :
    ∀ D, H1 D = none → ∃ W : Nat → Nat → Hp → Prop, (∃ m, W 0 m (upd H1 D (.lst []))) ∧ ∀ k m H, W k m H →
      ((Itt K a).stop k H ∧ Qd D H) ∨ ((Itt K a).go k H ∧ ∃ Nx : Hp → Prop, (∀ H', Nx H' → ∃ m', m' < m ∧ W (k + 1) m' H') ∧ ∀ x H', (Itt K a).yld k H x H' → gName i x (wipe σ [i]) H' fun σ2 H2 => wipe σ2 [i] = wipe σ [i] ∧ tYes σ2 H2 fun b H3 =>
        if b = true then te σ2 H3 fun y H4 => ∃ acc, H4 D = some (.lst acc) ∧ acc.length < sizeLine ∧ Nx (upd H4 D (.lst (acc ++ [y]))) else Nx H3) := by
  intro D hD
  refine lc_tup (K := K) (a := a) (xs := xs) (σ := σ) (vs := [i]) (H1 := H1) (D := D) (Qd := fun H => Qd D H) (fun k H => Same H1 H ∧ ∃ ys, H D = some (.lst ys) ∧ ys.length = k ∧ ∀ j y, ys[j]? = some y → R j y H)
    ⟨same_upd hD, [], upd_same, rfl, fun j y e => by simp at e⟩ (fun k H _ p => sqT_same ha p.1) ?_ ?_
  · rintro k x H hk ⟨s1, ys, e1, hl, r0⟩
    have hlt : k < xs.length := (List.getElem?_eq_some_iff.mp hk).1
    refine ⟨wipe1 σ i _, ?_⟩
    rw [set1]
    unfold tYes
    dsimp only
    rw [if_pos rfl]
    refine hs k x H _ hk s1 fun y H4 s3 hy => ⟨ys, s3 _ _ e1, by omega, same_upd' (s1.trans s3) hD, ys ++ [y], upd_same, by simp [hl], fun j z e => ?_⟩
    have nl : NL H4 (upd H4 D (.lst (ys ++ [y]))) := fun c o ec no => by
      by_cases hc : c = D
      · subst hc
        rw [s3 _ _ e1] at ec
        exact absurd (Option.some.inj ec).symm (no ys)
      · rw [upd_ne hc]
        exact ec
    by_cases hj : j < ys.length
    · rw [List.getElem?_append_left hj] at e
      exact hR _ _ _ _ (hR _ _ _ _ (r0 j z e) (Same.nl s3)) nl
    · rw [List.getElem?_append_right (by omega)] at e
      have hj2 : j = ys.length := by
        have := (List.getElem?_eq_some_iff.mp e).1
        simp at this
        omega
      subst hj2
      simp at e
      subst e
      rw [hl]
      exact hR _ _ _ _ hy nl
  · rintro H ⟨s1, ys, e1, hl, r0⟩
    exact hd D H ys hD s1 e1 hl r0

/-! ### forms that are met -/
structure Fok (F : Form) : Prop where
  nb : F.2.1 ≠ []
  na : F.2.2.2 ≠ []
  pb : lstep F.2.1 = F.2.1.length
  pa : lstep F.2.2.2 = F.2.2.2.length
  zb : F.2.1.length ≤ 20000
  za : F.2.2.2.length ≤ 20000
  zm : F.2.2.1.length ≤ 100000
theorem fok_of {s : Int} {b m a : Row} {F : Form} (hb : b ≠ []) (ha : a ≠ []) (zb : b.length ≤ 20000) (za : a.length ≤ 20000) (zm : m.length ≤ 100000) (h : OneForm s b m a F) : Fok F := by
  obtain ⟨h1, h2, h3, h4, h5, h6, h7⟩ := form_rows hb ha h
  have l1 := (lstep_ok hb).2.1
  have l2 := (lstep_ok ha).2.1
  exact ⟨h5, h6, h3, h4, by omega, by omega, by omega⟩
theorem fok_sf {s : Int} {b a : Bool} {m : Row} {F : Form} (zm : m.length ≤ 100000) (h : SF s b m a F) : Fok F := by
  have one : ∀ x : Bool, ([x] : Row).length ≤ 20000 := fun x => by show 1 ≤ 20000; decide
  rcases h with ⟨_, _, rfl⟩ | ⟨_, l, h, _, _, _, _, _, _, _, rfl⟩
  · exact ⟨by simp, by simp, lstep_one _, lstep_one _, one _, one _, by show 0 ≤ 100000; decide⟩
  · refine ⟨by simp, by simp, lstep_one _, lstep_one _, one _, one _, ?_⟩
    show ((m.take _).drop _).length ≤ 100000
    rw [List.length_drop, List.length_take]
    omega
theorem row_line {n : Nat} (h : n ≤ 100000) : n ≤ sizeLine := Nat.le_trans h (by decide)
def endF (F : Form) : Int := F.1 + (F.2.2.1.length : Int)
def thrF (F : Form) : Bool := decide (F.1 = 0) && (decide (F.2.2.1.length = 0) && decide (F.2.1 = F.2.2.2))
/-- a Rounds with its form, as a promise tells it -/
def RF (K : PySem.W.Frag) (C : Addr) (H : Hp) (p : Addr) (F : Form) : Prop := Rou K C H p F ∧ Fok F
theorem RF.same {K : PySem.W.Frag} {C : Addr} {H H' : Hp} {p : Addr} {F : Form} (h : RF K C H p F) (s : Same H H') : RF K C H' p F := ⟨h.1.same s, h.2⟩
def spEnd (K : PySem.W.Frag) (C : Addr) : Sp := fun vs H Q _ => ∃ p F, vs = [.ref p] ∧ Rou K C H p F ∧ Q (.int (endF F)) H
def spThr (K : PySem.W.Frag) (C : Addr) : Sp := fun vs H Q _ => ∃ p F, vs = [.ref p] ∧ Rou K C H p F ∧ Q (.bl (thrF F)) H
def memF (F : Form) (n : Int) : Bool := memB F.1 F.2.1 F.2.2.1 F.2.2.2 n
def spCon (K : PySem.W.Frag) (C : Addr) : Sp := fun vs H Q _ => ∃ p F n, vs = [.ref p, .int n] ∧ RF K C H p F ∧ Q (.bl (memF F n)) H
def spBoo (K : PySem.W.Frag) (C : Addr) : Sp := fun vs H Q _ => ∃ p F, vs = [.ref p] ∧ Rou K C H p F ∧ ∀ c, Q (.bl c) H
section
variable {P : Program} {w : World} {K : PySem.W.Frag} {mg : Str → Option Value} {base : Heap}
theorem ok_end {C : Addr} (h : Has K mg "end_of" s_end_of) (R : RC K mg C) (T : Tx K mg) : Df P w K mg base 1 "end_of" ["one"] (spEnd K C) := by
  refine h.df c_end_of (fun _ _ _ _ _ _ us hl => match us, hl with | [_], _ => rfl) (fun vs H Q E ⟨_, _, e, _⟩ => by rw [e]; rfl) fun f cdv A outer s H vs Q E hr hs => ?_
  obtain ⟨p, F, rfl, ⟨dx, b, m, a, h1, h2, h3, h4⟩, q⟩ := hs
  refine ⟨_, (pss_one (ps_ret (pe_op op_add (fldS (K := K) rfl (pv 0)) (pe_callB (lenS (K := K) rfl) (by rfl) T.len boot_len (pa_cons (fldS (K := K) rfl (pv 0)) pa_nil))))), ?_⟩
  refine ⟨_, rfl, p, C, dx, _, _, rfl, h1, R.cl, R.no _ (by simp), fld_start _ _ _ _, _, rfl, p, C, dx, _, _, rfl, h1, R.cl, R.no _ (by simp), fld_middle _ _ _ _, m, _, rfl, .inr h3, _, _, rfl, rfl, ?_⟩
  have e : F.1 + ((bls F.2.2.1).length : Int) = endF F := by rw [bls_len]; rfl
  show Q (.int (F.1 + ((bls F.2.2.1).length : Int))) H
  rw [e]
  exact q
theorem ok_thr {C : Addr} (h : HasM K C "is_throughout" "Rounds.is_throughout" s_R_is_throughout) (R : RC K mg C) (T : Tx K mg) : Md P w K mg base C 1 "is_throughout" ["self"] (spThr K C) := by
  refine h.md c_R_is_throughout (fun _ _ _ _ _ _ us hl => match us, hl with | [_], _ => rfl) (fun vs H Q E ⟨_, _, e, _⟩ => by rw [e]; rfl) fun f cdv A outer s H vs Q E hr hs => ?_
  obtain ⟨p, F, rfl, ⟨dx, b, m, a, h1, h2, h3, h4⟩, q⟩ := hs
  refine ⟨_, (pss_one (ps_ret (pe_and (pe_cmpR op_eq (fldS (K := K) rfl (pv 0)) pe_int (nomark _)) (pe_and (pe_cmpR op_eq (pe_callB (lenS (K := K) rfl) (by rfl) T.len boot_len (pa_cons (fldS (K := K) rfl (pv 0)) pa_nil)) pe_int (nomark _)) (pe_one (pe_cmpR (op_eqRow hr.units) (fldS (K := K) rfl (pv 0)) (fldS (K := K) rfl (pv 0)) (nomark _))))))), ?_⟩
  unfold thrF at q
  refine ⟨_, rfl, p, C, dx, _, _, rfl, h1, R.cl, R.no _ (by simp), fld_start _ _ _ _, rfl, _, rfl, ?_⟩
  by_cases e1 : F.1 = 0
  · refine iteBT (decide_eq_true (congrArg V.int e1)) ?_
    refine ⟨_, rfl, p, C, dx, _, _, rfl, h1, R.cl, R.no _ (by simp), fld_middle _ _ _ _, m, _, rfl, .inr h3, rfl, _, rfl, ?_⟩
    rw [decide_eq_true e1, Bool.true_and] at q
    by_cases e2 : F.2.2.1.length = 0
    · refine iteBT (decide_eq_true (congrArg V.int (by rw [bls_len, e2]; rfl))) ?_
      rw [decide_eq_true e2, Bool.true_and] at q
      exact ⟨_, rfl, p, C, dx, _, _, rfl, h1, R.cl, R.no _ (by simp), fld_below _ _ _ _, _, rfl, p, C, dx, _, _, rfl, h1, R.cl, R.no _ (by simp), fld_above _ _ _ _, b, a, _, _, rfl, rfl, h2, h4, q⟩
    · rw [decide_eq_false e2] at q
      exact iteBF (decide_eq_false fun z => e2 (by have := V.int.inj z; rw [bls_len] at this; omega)) q
  · rw [decide_eq_false e1] at q
    exact iteBF (decide_eq_false fun z => e1 (V.int.inj z)) q
theorem ok_con {C : Addr} (h : HasM K C "__contains__" "Rounds.__contains__" s_R_contains) (R : RC K mg C) (T : Tx K mg) (DM : Df P w K mg base 2 "is_member" ["start", "below", "middle", "above", "n"] (spMem K)) : Md P w K mg base C 3 "__contains__" ["self", "n"] (spCon K C) := by
  refine h.md c_R_contains (fun _ _ _ _ _ _ us hl => match us, hl with | [_, _], _ => rfl) (fun vs H Q E ⟨_, _, _, e, _⟩ => by rw [e]; rfl) fun f cdv A outer s H vs Q E hr hs => ?_
  obtain ⟨p, F, n, rfl, ⟨⟨dx, b, m, a, h1, h2, h3, h4⟩, ok⟩, q⟩ := hs
  refine ⟨_, (pss_one (ps_ret (pe_df DM hr passL (by rfl) (pa_cons (fldS (K := K) rfl (pv 0)) (pa_cons (fldS (K := K) rfl (pv 0)) (pa_cons (fldS (K := K) rfl (pv 0)) (pa_cons (fldS (K := K) rfl (pv 0)) (pa_cons (pv 1) pa_nil)))))))), ?_⟩
  refine ⟨_, rfl, p, C, dx, _, _, rfl, h1, R.cl, R.no _ (by simp), fld_start _ _ _ _, _, rfl, p, C, dx, _, _, rfl, h1, R.cl, R.no _ (by simp), fld_below _ _ _ _, _, rfl, p, C, dx, _, _, rfl, h1, R.cl, R.no _ (by simp), fld_middle _ _ _ _, _, rfl, p, C, dx, _, _, rfl, h1, R.cl, R.no _ (by simp), fld_above _ _ _ _, _, rfl, ?_⟩
  exact ⟨F.1, b, m, a, _, _, _, n, rfl, h2, h3, h4, ok.nb, ok.na, q⟩
theorem ok_boo {C : Addr} (h : HasM K C "__bool__" "Rounds.__bool__" s_R_bool) (R : RC K mg C) (T : Tx K mg) : Md P w K mg base C 1 "__bool__" ["self"] (spBoo K C) := by
  refine h.md c_R_bool (fun _ _ _ _ _ _ us hl => match us, hl with | [_], _ => rfl) (fun vs H Q E ⟨_, _, e, _⟩ => by rw [e]; rfl) fun f cdv A outer s H vs Q E hr hs => ?_
  obtain ⟨p, F, rfl, ⟨dx, b, m, a, h1, h2, h3, h4⟩, q⟩ := hs
  refine ⟨_, (pss_one (ps_ret (pe_or (pe_cmpR (inS (K := K) rfl) pe_bl (fldS (K := K) rfl (pv 0)) rfl) (pe_or (pe_cmpR (inS (K := K) rfl) pe_bl (fldS (K := K) rfl (pv 0)) rfl) (pe_one (pe_cmpR (inS (K := K) rfl) pe_bl (fldS (K := K) rfl (pv 0)) rfl)))))), ?_⟩
  refine ⟨_, rfl, p, C, dx, _, _, rfl, h1, R.cl, R.no _ (by simp), fld_below _ _ _ _, b, _, rfl, .inr h2, rfl, bls_flat _, _, rfl, ?_⟩
  refine ite2 (fun _ => q _) fun _ => ?_
  refine ⟨_, rfl, p, C, dx, _, _, rfl, h1, R.cl, R.no _ (by simp), fld_middle _ _ _ _, m, _, rfl, .inr h3, rfl, bls_flat _, _, rfl, ?_⟩
  refine ite2 (fun _ => q _) fun _ => ?_
  exact ⟨_, rfl, p, C, dx, _, _, rfl, h1, R.cl, R.no _ (by simp), fld_above _ _ _ _, a, _, rfl, .inr h4, rfl, bls_flat _, q _⟩

/-! ### combined -/
def spMix (K : PySem.W.Frag) (C : Addr) : Sp := fun vs H Q _ => ∃ p F o G first many t r4, vs = [.ref p, .ref o, .int first, .int many, .ref t] ∧ RF K C H p F ∧ RF K C H o G ∧ many ≤ 20000 ∧ SqT K H t (bls r4) ∧ r4.length = 4 ∧
  ∀ (r : Row) q H', r.length = many.toNat → Same H H' → SqT K H' q (bls r) → Q (.ref q) H'
theorem ok_mix {C : Addr} (h : Has K mg "mixed_row" s_mixed_row) (T : Tx K mg) (MC : Md P w K mg base C 3 "__contains__" ["self", "n"] (spCon K C)) : Df P w K mg base 4 "mixed_row" ["one", "other", "first", "many", "table"] (spMix K C) := by
  refine h.df c_mixed_row (fun _ _ _ _ _ _ us hl => match us, hl with | [_, _, _, _, _], _ => rfl) (fun vs H Q E ⟨_, _, _, _, _, _, _, _, e, _⟩ => by rw [e]; rfl) fun f cdv A outer s H vs Q E hr hs => ?_
  obtain ⟨p, F, o, G, first, many, t, r4, rfl, hF, hG, hm, ht, h4, q⟩ := hs
  obtain ⟨fc, fdc, mc, Fc, bc⟩ := MC.ex
  refine ⟨_, (pss_one (ps_ret (pe_callTy (tupS (K := K) rfl) (by rfl) T.tuple boot_tuple (pa_cons (pe_lc (own := [("n", 5)]) (g := gName 5) (tt := tYes) rfl c_mixed_row.nd (pi_rg2 (by rfl) T.range (pa_cons (pv 2) (pa_cons (pe_op op_add (pv 2) (pv 3)) pa_nil))) (blkOk_by (N := n_mixed_row) (sc := defScope s_mixed_row) (by decide +kernel)) (fun _ _ _ _ _ => pg_name (i := 5) c_mixed_row.nd rfl (Or.inl rfl)) (fun _ _ _ _ _ => pts_nil) (fun _ _ _ _ _ => (pe_ix (ixT (K := K) rfl) (pv 4) (pe_op op_add (pe_op op_mul pe_int (pe_callTy call_int1 (by rfl) T.int boot_int (pa_cons (pe_cmpR (in_own mc Fc hr bc passL) (pv 5) (pv 0) rfl) pa_nil))) (pe_callTy call_int1 (by rfl) T.int boot_int (pa_cons (pe_cmpR (in_own mc Fc hr bc passL) (pv 5) (pv 1) rfl) pa_nil))) (fun _ _ => rfl)))) pa_nil)))), ?_⟩
  refine ⟨_, rfl, _, rfl, _, rfl, _, _, rfl, rfl, _, _, rfl, ?_⟩
  have em : (first + many - first).toNat = many.toNat := by congr 1; omega
  rw [em]
  refine lcR (i := 5) (fun j => .bl (r4.getD (2 * (if memF F (first + j) then 1 else 0) + (if memF G (first + j) then 1 else 0)) false)) (Nat.le_trans (by omega) (show 20000 ≤ sizeLine by decide)) (fun j H' Qy hj s1 qy => ?_) fun L0 H1 n1 s1 e1 => ?_
  · have hF1 := hF.same s1
    have hG1 := hG.same s1
    obtain ⟨⟨dx1, b1, m1, a1, f1, _⟩, _⟩ := id hF1
    obtain ⟨⟨dx2, b2, m2, a2, g1, _⟩, _⟩ := id hG1
    refine ⟨_, rfl, _, rfl, _, rfl, p, dx1, _, rfl, f1, p, F, _, rfl, hF1, _, rfl, .inr ⟨_, rfl, _, _, rfl, rfl, .inl (by decide), ?_⟩⟩
    refine ⟨_, rfl, _, rfl, o, dx2, _, rfl, g1, o, G, _, rfl, hG1, _, rfl, .inr ⟨_, rfl, _, _, rfl, rfl, t, _, _, _, rfl, rfl, sqT_same ht s1, ?_, qy H' (Same.refl H')⟩⟩
    have ei : (2 * (if memF F (first + (j : Int)) = true then (1 : Int) else 0) + (if memF G (first + (j : Int)) = true then (1 : Int) else 0)) = ((2 * (if memF F (first + (j : Int)) = true then 1 else 0) + (if memF G (first + (j : Int)) = true then 1 else 0) : Nat) : Int) := by
      split <;> split <;> rfl
    show atI (bls r4) (2 * (if memF F (first + (j : Int)) = true then (1 : Int) else 0) + (if memF G (first + (j : Int)) = true then (1 : Int) else 0)) = _
    rw [ei]
    refine atI_nat ?_
    have hlt : (2 * (if memF F (first + (j : Int)) = true then 1 else 0) + (if memF G (first + (j : Int)) = true then 1 else 0) : Nat) < r4.length := by
      rw [h4]
      split <;> split <;> decide
    rw [bls_get, List.getD_eq_getElem?_getD, List.getElem?_eq_getElem hlt]
    rfl
  · have e2 : H1 L0 = some (.lst (bls ((List.range many.toNat).map fun (j : Nat) => r4.getD (2 * (if memF F (first + j) then 1 else 0) + (if memF G (first + j) then 1 else 0)) false))) := by
      rw [e1]
      unfold bls
      rw [List.map_map]
      rfl
    exact ⟨L0, _, rfl, .inl (sqL_at e2), fun p2 H2 s2 t2 => q _ p2 H2 (by simp) (s1.trans s2) t2⟩
/-- the middle's bounds of two forms put together -/
def jb (F G : Form) : Int × Int := if thrF F = true then (G.1, endF G) else if thrF G = true then (F.1, endF F) else (if G.1 < F.1 then G.1 else F.1, if endF G > endF F then endF G else endF F)
def spJb (K : PySem.W.Frag) (C : Addr) : Sp := fun vs H Q _ => ∃ p F o G, vs = [.ref p, .ref o] ∧ Rou K C H p F ∧ Rou K C H o G ∧ ∀ q H', Same H H' → SqT K H' q [.int (jb F G).1, .int (jb F G).2] → Q (.ref q) H'
theorem ok_jb {C : Addr} (h : Has K mg "joint_bounds" s_joint_bounds) (R : RC K mg C) (T : Tx K mg) (MT : Md P w K mg base C 1 "is_throughout" ["self"] (spThr K C)) (DE : Df P w K mg base 1 "end_of" ["one"] (spEnd K C)) : Df P w K mg base 2 "joint_bounds" ["one", "other"] (spJb K C) := by
  refine h.df c_joint_bounds (fun _ _ _ _ _ _ us hl => match us, hl with | [_, _], _ => rfl) (fun vs H Q E ⟨_, _, _, _, e, _⟩ => by rw [e]; rfl) fun f cdv A outer s H vs Q E hr hs => ?_
  obtain ⟨p, F, o, G, rfl, hF, hG, q⟩ := hs
  obtain ⟨dx1, b1, m1, a1, f1, f2, f3, f4⟩ := id hF
  obtain ⟨dx2, b2, m2, a2, g1, g2, g3, g4⟩ := id hG
  refine ⟨_, (pss_cons (ps_if (pt_val (pe_md0 MT R.cl hr passL (pv 0))) (pss_one (ps_ret (pe_tup (pa_cons (fldS (K := K) rfl (pv 1)) (pa_cons (pe_df DE hr passL (by rfl) (pa_cons (pv 1) pa_nil)) pa_nil))))) pss_nil)
    (pss_cons (ps_if (pt_val (pe_md0 MT R.cl hr passL (pv 1))) (pss_one (ps_ret (pe_tup (pa_cons (fldS (K := K) rfl (pv 0)) (pa_cons (pe_df DE hr passL (by rfl) (pa_cons (pv 0) pa_nil)) pa_nil))))) pss_nil)
    (pss_one (ps_ret (pe_tup (pa_cons (pe_callB (call_min2 rfl) (by rfl) T.min boot_min (pa_cons (fldS (K := K) rfl (pv 0)) (pa_cons (fldS (K := K) rfl (pv 1)) pa_nil))) (pa_cons (pe_callB (call_max2 rfl) (by rfl) T.max boot_max (pa_cons (pe_df DE hr passL (by rfl) (pa_cons (pv 0) pa_nil)) (pa_cons (pe_df DE hr passL (by rfl) (pa_cons (pv 1) pa_nil)) pa_nil))) pa_nil))))))), ?_⟩
  unfold jb at q
  refine ⟨_, rfl, p, dx1, _, rfl, f1, rfl, p, F, rfl, hF, _, rfl, ?_⟩
  by_cases t1 : thrF F = true
  · rw [if_pos t1] at q
    refine iteBT t1 ?_
    exact ⟨_, rfl, o, C, dx2, _, _, rfl, g1, R.cl, R.no _ (by simp), fld_start _ _ _ _, _, rfl, o, G, rfl, hG, (by show 2 ≤ sizeLine; decide), fun q1 n1 => q q1 _ (same_upd n1) sqT_new⟩
  · rw [if_neg t1] at q
    refine iteBF (Bool.eq_false_iff.mpr t1) ?_
    refine ⟨_, rfl, o, dx2, _, rfl, g1, rfl, o, G, rfl, hG, _, rfl, ?_⟩
    by_cases t2 : thrF G = true
    · rw [if_pos t2] at q
      refine iteBT t2 ?_
      exact ⟨_, rfl, p, C, dx1, _, _, rfl, f1, R.cl, R.no _ (by simp), fld_start _ _ _ _, _, rfl, p, F, rfl, hF, (by show 2 ≤ sizeLine; decide), fun q1 n1 => q q1 _ (same_upd n1) sqT_new⟩
    · rw [if_neg t2] at q
      refine iteBF (Bool.eq_false_iff.mpr t2) ?_
      exact ⟨_, rfl, p, C, dx1, _, _, rfl, f1, R.cl, R.no _ (by simp), fld_start _ _ _ _, _, rfl, o, C, dx2, _, _, rfl, g1, R.cl, R.no _ (by simp), fld_start _ _ _ _, _, _, rfl,
        _, rfl, p, F, rfl, hF, _, rfl, o, G, rfl, hG, _, _, rfl, (by show 2 ≤ sizeLine; decide), fun q1 n1 => q q1 _ (same_upd n1) sqT_new⟩
end
end Rk
set_option maxHeartbeats 4000000
/-! The program's defs, ninth part: combined, the signs, spread, sums, shifts. -/
namespace Rk
open PySem PySem.Spec PyProof.Rows L2

def tmF (x : String) : List (Str × V) := [("limit", .int 20000), ("what", .str (Str.ofString x))]
def perF (F G : Form) : Nat := max (cm F.2.1.length G.2.1.length) (cm F.2.2.2.length G.2.2.2.length)
/-- what is asked of two sets put together: the steps' limit first, then the middle's -/
def CombA (K : PySem.W.Frag) (C TM : Addr) (F G : Form) (H : Hp) (E : XK) (R : Prop) : Prop := (20000 < perF F G → Rz TM (tmF "period") H E) ∧ (perF F G ≤ 20000 → (20000 < (jb F G).2 - (jb F G).1 → Rz TM (tmF "middle") H E) ∧ ((jb F G).2 - (jb F G).1 ≤ 20000 → R))
def spComb (K : PySem.W.Frag) (C TM : Addr) : Sp := fun vs H Q E => ∃ p F o G t r4, vs = [.ref p, .ref o, .ref t] ∧ RF K C H p F ∧ RF K C H o G ∧ SqT K H t (bls r4) ∧ r4.length = 4 ∧ CombA K C TM F G H E (∀ D q H', Same H H' → RF K C H' q D → Q (.ref q) H')
theorem cm_pos {a b : Nat} (ha : 0 < a) (hb : 0 < b) : 0 < cm a b := Nat.mul_pos (Nat.div_pos (Nat.le_of_dvd ha (Nat.gcd_dvd_left a b)) (Nat.gcd_pos_of_pos_left _ ha)) hb
theorem max_nat (a b : Nat) : (if (b : Int) > (a : Int) then (b : Int) else (a : Int)) = ((max a b : Nat) : Int) := by
  split <;> omega
section
variable {P : Program} {w : World} {K : PySem.W.Frag} {mg : Str → Option Value} {base : Heap}
theorem ok_comb {C TM : Addr} {tL : Tok} (h : Has K mg "combined" s_combined) (R : RC K mg C) (T : Tx K mg) (LM : mg "LIMIT" = some (.int 20000 tL)) (DC : Df P w K mg base 2 "common_multiple" ["one", "other"] spCm) (DJ : Df P w K mg base 2 "joint_bounds" ["one", "other"] (spJb K C))
    (DX : Df P w K mg base 4 "mixed_row" ["one", "other", "first", "many", "table"] (spMix K C)) (CK : Ck P w K mg base "Rounds" C 4 ["self", "start", "below", "middle", "above"] (spRi K C)) (BT : ErD P w K mg base "TooMany" TM 1 ["self", "what", "limit"] (spEr TM 2 (fs2 "what" "limit"))) :
    Df P w K mg base 6 "combined" ["one", "other", "table"] (spComb K C TM) := by
  refine h.df c_combined (fun _ _ _ _ _ _ us hl => match us, hl with | [_, _, _], _ => rfl) (fun vs H Q E ⟨_, _, _, _, _, _, e, _⟩ => by rw [e]; rfl) fun f cdv A outer s H vs Q E hr hs => ?_
  obtain ⟨p, F, o, G, t, r4, rfl, hF, hG, ht, h4, qP, qM⟩ := hs
  obtain ⟨⟨dx1, b1, m1, a1, f1, f2, f3, f4⟩, okF⟩ := id hF
  obtain ⟨⟨dx2, b2, m2, a2, g1, g2, g3, g4⟩, okG⟩ := id hG
  refine ⟨_, (pss_cons (ps_set (i := 3) c_combined.nd rfl (.inl rfl) (pe_df DC (hr.mono (by decide)) passL (by rfl) (pa_cons (pe_callB (lenS (K := K) rfl) (by rfl) T.len boot_len (pa_cons (fldS (K := K) rfl (pv 0)) pa_nil)) (pa_cons (pe_callB (lenS (K := K) rfl) (by rfl) T.len boot_len (pa_cons (fldS (K := K) rfl (pv 1)) pa_nil)) pa_nil))))
    (pss_cons (ps_set (i := 4) c_combined.nd rfl (.inl rfl) (pe_df DC (hr.mono (by decide)) passL (by rfl) (pa_cons (pe_callB (lenS (K := K) rfl) (by rfl) T.len boot_len (pa_cons (fldS (K := K) rfl (pv 0)) pa_nil)) (pa_cons (pe_callB (lenS (K := K) rfl) (by rfl) T.len boot_len (pa_cons (fldS (K := K) rfl (pv 1)) pa_nil)) pa_nil))))
    (pss_cons (ps_if (pt_cmpR op_gt (pe_callB (call_max2 rfl) (by rfl) T.max boot_max (pa_cons (pv 3) (pa_cons (pv 4) pa_nil))) (pe_glob (v := .int 20000) (by rfl) LM ⟨_, rfl⟩) (nomark _)) (pss_one (ps_raise rfl (takes_of rfl rfl rfl rfl) (pmk_er BT (hr.mono (by decide)) (by rfl) (pa_cons pe_str (pa_cons (pe_glob (v := .int 20000) (by rfl) LM ⟨_, rfl⟩) pa_nil))))) pss_nil)
    (pss_cons (ps_asg (pe_df DJ (hr.mono (by decide)) passL (by rfl) (pa_cons (pv 0) (pa_cons (pv 1) pa_nil))) (pg_tup rfl (pgs_cons (pg_name (i := 5) c_combined.nd rfl (.inl rfl)) (pgs_cons (pg_name (i := 6) c_combined.nd rfl (.inl rfl)) pgs_nil))))
    (pss_cons (ps_if (pt_cmpR op_gt (pe_op op_sub (pv 6) (pv 5)) (pe_glob (v := .int 20000) (by rfl) LM ⟨_, rfl⟩) (nomark _)) (pss_one (ps_raise rfl (takes_of rfl rfl rfl rfl) (pmk_er BT (hr.mono (by decide)) (by rfl) (pa_cons pe_str (pa_cons (pe_glob (v := .int 20000) (by rfl) LM ⟨_, rfl⟩) pa_nil))))) pss_nil)
    (pss_one (ps_ret (pe_ck CK hr passL (by rfl) (pa_cons (pv 5) (pa_cons (pe_df DX (hr.mono (by decide)) passL (by rfl) (pa_cons (pv 0) (pa_cons (pv 1) (pa_cons (pe_op op_sub (pv 5) (pv 3)) (pa_cons (pv 3) (pa_cons (pv 2) pa_nil)))))) (pa_cons (pe_df DX (hr.mono (by decide)) passL (by rfl) (pa_cons (pv 0) (pa_cons (pv 1) (pa_cons (pv 5) (pa_cons (pe_op op_sub (pv 6) (pv 5)) (pa_cons (pv 2) pa_nil)))))) (pa_cons (pe_df DX (hr.mono (by decide)) passL (by rfl) (pa_cons (pv 0) (pa_cons (pv 1) (pa_cons (pv 6) (pa_cons (pv 4) (pa_cons (pv 2) pa_nil)))))) pa_nil)))))))))))), ?_⟩
  have lb := List.length_pos_iff.mpr okF.nb
  have la := List.length_pos_iff.mpr okF.na
  have lb' := List.length_pos_iff.mpr okG.nb
  have la' := List.length_pos_iff.mpr okG.na
  have zb := okF.zb
  have za := okF.za
  refine ⟨_, rfl, p, C, dx1, _, _, rfl, f1, R.cl, R.no _ (by simp), fld_below _ _ _ _, b1, _, rfl, .inr f2, _, rfl, o, C, dx2, _, _, rfl, g1, R.cl, R.no _ (by simp), fld_below _ _ _ _, b2, _, rfl, .inr g2, _, _, rfl, by rw [bls_len]; exact lb, by rw [bls_len]; omega, ?_⟩
  refine ⟨_, rfl, p, C, dx1, _, _, rfl, f1, R.cl, R.no _ (by simp), fld_above _ _ _ _, a1, _, rfl, .inr f4, _, rfl, o, C, dx2, _, _, rfl, g1, R.cl, R.no _ (by simp), fld_above _ _ _ _, a2, _, rfl, .inr g4, _, _, rfl, by rw [bls_len]; exact la, by rw [bls_len]; omega, ?_⟩
  rw [bls_len, bls_len, bls_len, bls_len]
  refine ⟨_, rfl, _, rfl, _, _, rfl, ?_⟩
  rw [max_nat]
  refine ⟨_, _, rfl, rfl, _, rfl, ?_⟩
  have eP : max (cm F.2.1.length G.2.1.length) (cm F.2.2.2.length G.2.2.2.length) = perF F G := rfl
  rw [eP]
  by_cases hp : 20000 < perF F G
  · exact iteBT (decide_eq_true (by omega)) (rz_make (n := 2) (ws := [.str "period", .int 20000]) rfl (by decide) (qP hp))
  refine iteBF (decide_eq_false (by omega)) ?_
  obtain ⟨q3, q4⟩ := qM (by omega)
  have hb0 := cm_pos lb lb'
  have ha0 := cm_pos la la'
  have hb1 : cm F.2.1.length G.2.1.length ≤ perF F G := Nat.le_max_left _ _
  have ha1 : cm F.2.2.2.length G.2.2.2.length ≤ perF F G := Nat.le_max_right _ _
  refine ⟨_, rfl, _, rfl, p, F, o, G, rfl, hF.1, hG.1, fun q1 H1 s1 t1 => ⟨q1, _, rfl, t1, rfl, _, _, rfl, _, _, rfl, rfl, ?_⟩⟩
  refine ⟨_, rfl, _, rfl, _, _, rfl, rfl, _, _, rfl, rfl, _, rfl, ?_⟩
  by_cases hm : 20000 < (jb F G).2 - (jb F G).1
  · exact iteBT (decide_eq_true hm) (rz_make (n := 2) (ws := [.str "middle", .int 20000]) rfl (by decide) ((q3 hm).same s1))
  refine iteBF (decide_eq_false hm) ?_
  refine ⟨_, rfl, _, rfl, _, rfl, _, rfl, _, rfl, _, _, rfl, rfl, _, rfl, _, rfl, p, F, o, G, _, _, t, r4, rfl, hF.same s1, hG.same s1, by omega, sqT_same ht s1, h4, fun r1 p1 H2 l1 s2 t2 => ?_⟩
  have s12 := s1.trans s2
  refine ⟨_, rfl, _, rfl, _, rfl, _, rfl, _, rfl, _, _, rfl, rfl, _, rfl, p, F, o, G, _, _, t, r4, rfl, hF.same s12, hG.same s12, by omega, sqT_same ht s12, h4, fun r2 p2 H3 l2 s3 t3 => ?_⟩
  have s13 := s12.trans s3
  refine ⟨_, rfl, _, rfl, _, rfl, _, rfl, _, rfl, p, F, o, G, _, _, t, r4, rfl, hF.same s13, hG.same s13, by omega, sqT_same ht s13, h4, fun r3 p3 H4 l3 s4 t4 => ?_⟩
  rw [Int.toNat_natCast] at l1 l3
  have n1 : r1 ≠ [] := fun z => by rw [z] at l1; simp at l1; omega
  have n3 : r3 ≠ [] := fun z => by rw [z] at l3; simp at l3; omega
  exact rounds_made (rb := r1) (rm := r2) (ra := r3) (sqT_same t2 (s3.trans s4)) (.inr (sqT_same t3 s4)) t4 n1 n3 (row_line (by omega)) (row_line (by omega)) (row_line (by omega))
    fun D q H' hD s hR => q4 (by omega) D q H' (s13.trans (s4.trans s)) ⟨hR, fok_of n1 n3 (by omega) (by omega) (by omega) hD⟩

/-! ### the signs -/
/-- a constant table of the module -/
structure TabK (K : PySem.W.Frag) (mg : Str → Option Value) (x : Str) : Prop where
  ex : ∃ a r4, mg x = some (.ref a) ∧ r4.length = 4 ∧ ∀ H : Hp, SqT K H a (bls r4)
def spSign (K : PySem.W.Frag) (C TM : Addr) : Sp := fun vs H Q E => ∃ p F o G, vs = [.ref p, .ref o] ∧ RF K C H p F ∧ RF K C H o G ∧ CombA K C TM F G H E (∀ D q H', Same H H' → RF K C H' q D → Q (.ref q) H')
def spAsk (K : PySem.W.Frag) (C TM : Addr) : Sp := fun vs H Q E => ∃ p F o G, vs = [.ref p, .ref o] ∧ RF K C H p F ∧ RF K C H o G ∧ CombA K C TM F G H E (∀ c H', Same H H' → Q (.bl c) H')
theorem ok_and {C TM : Addr} (h : HasM K C "__and__" "Rounds.__and__" s_R_and) (B : TabK K mg "IN_BOTH") (DC : Df P w K mg base 6 "combined" ["one", "other", "table"] (spComb K C TM)) : Md P w K mg base C 7 "__and__" ["self", "other"] (spSign K C TM) := by
  refine h.md c_R_and (fun _ _ _ _ _ _ us hl => match us, hl with | [_, _], _ => rfl) (fun vs H Q E ⟨_, _, _, _, e, _⟩ => by rw [e]; rfl) fun f cdv A outer s H vs Q E hr hs => ?_
  obtain ⟨p, F, o, G, rfl, hF, hG, q⟩ := hs
  obtain ⟨t, r4, hm, h4, ht⟩ := B.ex
  refine ⟨_, (pss_one (ps_ret (pe_df DC hr (thru rfl rfl rfl rfl) (by rfl) (pa_cons (pv 0) (pa_cons (pv 1) (pa_cons (pe_glob (v := .ref t) (by rfl) hm rfl) pa_nil)))))), ?_⟩
  exact ⟨_, rfl, _, rfl, p, F, o, G, t, r4, rfl, hF, hG, ht H, h4, q⟩
theorem ok_or {C TM : Addr} (h : HasM K C "__or__" "Rounds.__or__" s_R_or) (B : TabK K mg "IN_ONE_OR_BOTH") (DC : Df P w K mg base 6 "combined" ["one", "other", "table"] (spComb K C TM)) : Md P w K mg base C 7 "__or__" ["self", "other"] (spSign K C TM) := by
  refine h.md c_R_or (fun _ _ _ _ _ _ us hl => match us, hl with | [_, _], _ => rfl) (fun vs H Q E ⟨_, _, _, _, e, _⟩ => by rw [e]; rfl) fun f cdv A outer s H vs Q E hr hs => ?_
  obtain ⟨p, F, o, G, rfl, hF, hG, q⟩ := hs
  obtain ⟨t, r4, hm, h4, ht⟩ := B.ex
  refine ⟨_, (pss_one (ps_ret (pe_df DC hr (thru rfl rfl rfl rfl) (by rfl) (pa_cons (pv 0) (pa_cons (pv 1) (pa_cons (pe_glob (v := .ref t) (by rfl) hm rfl) pa_nil)))))), ?_⟩
  exact ⟨_, rfl, _, rfl, p, F, o, G, t, r4, rfl, hF, hG, ht H, h4, q⟩
theorem ok_sub {C TM : Addr} (h : HasM K C "__sub__" "Rounds.__sub__" s_R_sub) (B : TabK K mg "IN_FIRST_ALONE") (DC : Df P w K mg base 6 "combined" ["one", "other", "table"] (spComb K C TM)) : Md P w K mg base C 7 "__sub__" ["self", "other"] (spSign K C TM) := by
  refine h.md c_R_sub (fun _ _ _ _ _ _ us hl => match us, hl with | [_, _], _ => rfl) (fun vs H Q E ⟨_, _, _, _, e, _⟩ => by rw [e]; rfl) fun f cdv A outer s H vs Q E hr hs => ?_
  obtain ⟨p, F, o, G, rfl, hF, hG, q⟩ := hs
  obtain ⟨t, r4, hm, h4, ht⟩ := B.ex
  refine ⟨_, (pss_one (ps_ret (pe_df DC hr (thru rfl rfl rfl rfl) (by rfl) (pa_cons (pv 0) (pa_cons (pv 1) (pa_cons (pe_glob (v := .ref t) (by rfl) hm rfl) pa_nil)))))), ?_⟩
  exact ⟨_, rfl, _, rfl, p, F, o, G, t, r4, rfl, hF, hG, ht H, h4, q⟩
theorem ask_of {C TM : Addr} {p o : Addr} {F G : Form} {H : Hp} {E : XK} {Q : VK} (q : CombA K C TM F G H E (∀ c H', Same H H' → Q (.bl c) H')) :
    CombA K C TM F G H E (∀ D r H', Same H H' → RF K C H' r D → (fun (x : V) (H1 : Hp) => ∃ a dx fs, x = V.ref a ∧ H1 a = some (.ins C dx fs) ∧ spBoo K C [.ref a] H1 (fun v H' => ∃ c, v = .bl c ∧ Q (.bl (!c)) H') E0) (V.ref r) H') :=
  ⟨q.1, fun hp => ⟨(q.2 hp).1, fun hm D r H' s hR => by
    obtain ⟨dx, b, m, a, f1, _⟩ := id hR.1
    exact ⟨r, dx, _, rfl, f1, r, D, rfl, hR.1, fun c => ⟨c, rfl, (q.2 hp).2 hm _ H' s⟩⟩⟩⟩
theorem ok_within {C TM : Addr} (h : HasM K C "within" "Rounds.within" s_R_within) (B : TabK K mg "IN_FIRST_ALONE") (DC : Df P w K mg base 6 "combined" ["one", "other", "table"] (spComb K C TM)) (MB : Md P w K mg base C 1 "__bool__" ["self"] (spBoo K C)) : Md P w K mg base C 7 "within" ["self", "other"] (spAsk K C TM) := by
  refine h.md c_R_within (fun _ _ _ _ _ _ us hl => match us, hl with | [_, _], _ => rfl) (fun vs H Q E ⟨_, _, _, _, e, _⟩ => by rw [e]; rfl) fun f cdv A outer s H vs Q E hr hs => ?_
  obtain ⟨p, F, o, G, rfl, hF, hG, q⟩ := hs
  obtain ⟨t, r4, hm, h4, ht⟩ := B.ex
  obtain ⟨fb, fdb, mb, Fb, bb⟩ := MB.ex
  refine ⟨_, pss_one (ps_ret (pe_notR (tru_own mb Fb (hr.mono (by decide)) bb passL) (pe_df DC hr (thru rfl rfl rfl rfl) (by rfl) (pa_cons (pv 0) (pa_cons (pv 1) (pa_cons (pe_glob (v := .ref t) (by rfl) hm rfl) pa_nil)))))), ?_⟩
  exact ⟨_, rfl, _, rfl, p, F, o, G, t, r4, rfl, hF, hG, ht H, h4, ask_of (p := p) (o := o) q⟩
theorem ok_apart {C TM : Addr} (h : HasM K C "apart" "Rounds.apart" s_R_apart) (B : TabK K mg "IN_BOTH") (DC : Df P w K mg base 6 "combined" ["one", "other", "table"] (spComb K C TM)) (MB : Md P w K mg base C 1 "__bool__" ["self"] (spBoo K C)) : Md P w K mg base C 7 "apart" ["self", "other"] (spAsk K C TM) := by
  refine h.md c_R_apart (fun _ _ _ _ _ _ us hl => match us, hl with | [_, _], _ => rfl) (fun vs H Q E ⟨_, _, _, _, e, _⟩ => by rw [e]; rfl) fun f cdv A outer s H vs Q E hr hs => ?_
  obtain ⟨p, F, o, G, rfl, hF, hG, q⟩ := hs
  obtain ⟨t, r4, hm, h4, ht⟩ := B.ex
  obtain ⟨fb, fdb, mb, Fb, bb⟩ := MB.ex
  refine ⟨_, pss_one (ps_ret (pe_notR (tru_own mb Fb (hr.mono (by decide)) bb passL) (pe_df DC hr (thru rfl rfl rfl rfl) (by rfl) (pa_cons (pv 0) (pa_cons (pv 1) (pa_cons (pe_glob (v := .ref t) (by rfl) hm rfl) pa_nil)))))), ?_⟩
  exact ⟨_, rfl, _, rfl, p, F, o, G, t, r4, rfl, hF, hG, ht H, h4, ask_of (p := p) (o := o) q⟩

/-! ### -x, ~x -/
def spNeg (K : PySem.W.Frag) (C : Addr) : Sp := fun vs H Q _ => ∃ p F, vs = [.ref p] ∧ RF K C H p F ∧ ∀ D q H', OneForm (1 - endF F) F.2.2.2.reverse F.2.2.1.reverse F.2.1.reverse D → Same H H' → RF K C H' q D → Q (.ref q) H'
def spInv (K : PySem.W.Frag) (C : Addr) : Sp := fun vs H Q _ => ∃ p F, vs = [.ref p] ∧ RF K C H p F ∧ ∀ D q H', OneForm F.1 (F.2.1.map (!·)) (F.2.2.1.map (!·)) (F.2.2.2.map (!·)) D → Same H H' → RF K C H' q D → Q (.ref q) H'
theorem bls_rev (r : Row) : (bls r).reverse = bls r.reverse := List.map_reverse.symm
theorem ok_neg {C : Addr} (h : HasM K C "__neg__" "Rounds.__neg__" s_R_neg) (R : RC K mg C) (DE : Df P w K mg base 1 "end_of" ["one"] (spEnd K C)) (CK : Ck P w K mg base "Rounds" C 4 ["self", "start", "below", "middle", "above"] (spRi K C)) : Md P w K mg base C 6 "__neg__" ["self"] (spNeg K C) := by
  refine h.md c_R_neg (fun _ _ _ _ _ _ us hl => match us, hl with | [_], _ => rfl) (fun vs H Q E ⟨_, _, e, _⟩ => by rw [e]; rfl) fun f cdv A outer s H vs Q E hr hs => ?_
  obtain ⟨p, F, rfl, hF, q⟩ := hs
  obtain ⟨⟨dx1, b1, m1, a1, f1, f2, f3, f4⟩, ok⟩ := id hF
  refine ⟨_, (pss_one (ps_ret (pe_ck CK hr passL (by rfl) (pa_cons (pe_op op_sub pe_int (pe_df DE (hr.mono (by decide)) passL (by rfl) (pa_cons (pv 0) pa_nil))) (pa_cons (pe_revT (fldS (K := K) rfl (pv 0))) (pa_cons (pe_revT (fldS (K := K) rfl (pv 0))) (pa_cons (pe_revT (fldS (K := K) rfl (pv 0))) pa_nil))))))), ?_⟩
  refine ⟨_, rfl, p, F, rfl, hF.1, _, _, rfl, rfl, ?_⟩
  refine ⟨_, rfl, p, C, dx1, _, _, rfl, f1, R.cl, R.no _ (by simp), fld_above _ _ _ _, a1, _, rfl, f4, fun p1 n1 => ?_⟩
  have s1 := same_upd (o := .tup (bls F.2.2.2).reverse) n1
  refine ⟨_, rfl, p, C, dx1, _, _, rfl, s1 _ _ f1, R.cl, R.no _ (by simp), fld_middle _ _ _ _, m1, _, rfl, sqT_same f3 s1, fun p2 n2 => ?_⟩
  have s2 := same_upd (o := .tup (bls F.2.2.1).reverse) n2
  refine ⟨_, rfl, p, C, dx1, _, _, rfl, s2 _ _ (s1 _ _ f1), R.cl, R.no _ (by simp), fld_below _ _ _ _, b1, _, rfl, sqT_same f2 (s1.trans s2), fun p3 n3 => ?_⟩
  have s3 := same_upd (o := .tup (bls F.2.1).reverse) n3
  have t1 : SqT K (upd H p1 (.tup (bls F.2.2.2).reverse)) p1 (bls F.2.2.2.reverse) := by rw [← bls_rev F.2.2.2]; exact sqT_new
  have t2 : SqT K (upd (upd H p1 (.tup (bls F.2.2.2).reverse)) p2 (.tup (bls F.2.2.1).reverse)) p2 (bls F.2.2.1.reverse) := by rw [← bls_rev F.2.2.1]; exact sqT_new
  have t3 : SqT K (upd (upd (upd H p1 (.tup (bls F.2.2.2).reverse)) p2 (.tup (bls F.2.2.1).reverse)) p3 (.tup (bls F.2.1).reverse)) p3 (bls F.2.1.reverse) := by rw [← bls_rev F.2.1]; exact sqT_new
  have nb : F.2.2.2.reverse ≠ [] := by simpa using ok.na
  have na : F.2.1.reverse ≠ [] := by simpa using ok.nb
  have lb : F.2.2.2.reverse.length ≤ 20000 := by rw [List.length_reverse]; exact ok.za
  have la : F.2.1.reverse.length ≤ 20000 := by rw [List.length_reverse]; exact ok.zb
  have lm : F.2.2.1.reverse.length ≤ 100000 := by rw [List.length_reverse]; exact ok.zm
  exact rounds_made (sqT_same t1 (s2.trans s3)) (.inr (sqT_same t2 s3)) t3 nb na (row_line (by omega)) (row_line (by omega)) (row_line (by omega))
    fun D q2 H' hD s hR => q D q2 H' hD (s1.trans (s2.trans (s3.trans s))) ⟨hR, fok_of nb na lb la lm hD⟩
end
end Rk
set_option maxHeartbeats 4000000
/-! The program's defs, tenth part: ~x, spread, sums, shifts. -/
namespace Rk
open PySem PySem.Spec PyProof.Rows L2

/-- the outer block's names in __invert__ -/
abbrev sc_inv : Scope := { kind := .function, names := [(".0", .local), ("row", .local), ("tuple", .globalImplicit)], isGenerator := false, isCoroutine := false, more := [] }
def notV : V → V
  | .bl b => .bl (!b)
  | v => v
theorem bls_not (r : Row) : (bls r).map notV = bls (r.map (!·)) := by
  unfold bls
  rw [List.map_map, List.map_map]
  rfl
/-- three rows by number -/
def row3 (F : Form) : Nat → Row
  | 0 => F.2.1
  | 1 => F.2.2.1
  | _ => F.2.2.2
/-- three list items by what is known of each -/
theorem three {R : Nat → V → Hp → Prop} {H : Hp} {ys : List V} (hl : ys.length = 3) (h : ∀ j y, ys[j]? = some y → R j y H) : ∃ y0 y1 y2, ys = [y0, y1, y2] ∧ R 0 y0 H ∧ R 1 y1 H ∧ R 2 y2 H := by
  match ys, hl with
  | [y0, y1, y2], _ => exact ⟨y0, y1, y2, rfl, h 0 y0 rfl, h 1 y1 rfl, h 2 y2 rfl⟩
section
variable {P : Program} {w : World} {K : PySem.W.Frag} {mg : Str → Option Value} {base : Heap}
theorem ok_inv {C : Addr} (h : HasM K C "__invert__" "Rounds.__invert__" s_R_invert) (R : RC K mg C) (T : Tx K mg) (CK : Ck P w K mg base "Rounds" C 4 ["self", "start", "below", "middle", "above"] (spRi K C)) : Md P w K mg base C 6 "__invert__" ["self"] (spInv K C) := by
  refine h.md c_R_invert (fun _ _ _ _ _ _ us hl => match us, hl with | [_], _ => rfl) (fun vs H Q E ⟨_, _, e, _⟩ => by rw [e]; rfl) fun f cdv A outer s H vs Q E hr hs => ?_
  obtain ⟨p, F, rfl, hF, q⟩ := hs
  obtain ⟨⟨dx1, b1, m1, a1, f1, f2, f3, f4⟩, ok⟩ := id hF
  refine ⟨_, (pss_cons (ps_setLc (i := 1) (own := [("row", 2)]) (g := gName 2) (tt := tYes) rfl c_R_invert.nd rfl rfl (sw_true rfl rfl rfl (by decide +kernel)) (piT (K := K) rfl (pe_tup (pa_cons (fldS (K := K) rfl (pv 0)) (pa_cons (fldS (K := K) rfl (pv 0)) (pa_cons (fldS (K := K) rfl (pv 0)) pa_nil))))) (blkOk_by (N := n_R_invert) (sc := defScope s_R_invert) (by decide +kernel)) (fun _ _ _ _ _ => pg_name (i := 2) c_R_invert.nd rfl (Or.inl rfl)) (fun _ _ _ _ _ => pts_nil) (fun _ _ _ _ _ => (pe_callTy (tupS (K := K) rfl) (by rfl) T.tuple boot_tuple (pa_cons (pe_lc (own := [("truth", 3)]) (g := gName 3) (tt := tYes) rfl c_R_invert.nd (piT (K := K) rfl (pv 2)) (blkOk_by (N := n_R_invert) (sc := sc_inv) (by decide +kernel)) (fun _ _ _ _ _ => pg_name (i := 3) c_R_invert.nd rfl (Or.inl rfl)) (fun _ _ _ _ _ => pts_nil) (fun _ _ _ _ _ => (pe_not (pv 3)))) pa_nil))))
    (pss_one (ps_ret (pe_ck CK hr passL (by rfl) (pa_cons (fldS (K := K) rfl (pv 0)) (pa_cons (pe_ix (ixL (K := K) rfl) (pv 1) pe_int (fun _ _ => rfl)) (pa_cons (pe_ix (ixL (K := K) rfl) (pv 1) pe_int (fun _ _ => rfl)) (pa_cons (pe_ix (ixL (K := K) rfl) (pv 1) pe_int (fun _ _ => rfl)) pa_nil)))))))), ?_⟩
  have src : ∀ j x, ([.ref b1, .ref m1, .ref a1] : List V)[j]? = some x → ∃ a, x = .ref a ∧ SqT K H a (bls (row3 F j)) ∧ (row3 F j).length ≤ 100000 := fun j x e => by
    match j, e with
    | 0, e => cases e; exact ⟨b1, rfl, f2, by have := ok.zb; show F.2.1.length ≤ _; omega⟩
    | 1, e => cases e; exact ⟨m1, rfl, f3, ok.zm⟩
    | 2, e => cases e; exact ⟨a1, rfl, f4, by have := ok.za; show F.2.2.2.length ≤ _; omega⟩
  refine ⟨_, rfl, p, C, dx1, _, _, rfl, f1, R.cl, R.no _ (by simp), fld_below _ _ _ _, _, rfl, p, C, dx1, _, _, rfl, f1, R.cl, R.no _ (by simp), fld_middle _ _ _ _, _, rfl, p, C, dx1, _, _, rfl, f1, R.cl, R.no _ (by simp), fld_above _ _ _ _, (by show 3 ≤ sizeLine; decide), fun p0 n0 => ⟨p0, rfl, ⟨_, sqT_new⟩, ?_⟩⟩
  have s0 := same_upd (o := .tup [.ref b1, .ref m1, .ref a1]) n0
  refine lcTR (K := K) (i := 2) (xs := [.ref b1, .ref m1, .ref a1]) (fun j y H' => ∃ q, y = .ref q ∧ SqT K H' q (bls ((row3 F j).map (!·)))) (fun j y H1 H2 ⟨q, e, t⟩ nl => ⟨q, e, sqT_nl t nl⟩) (by show 3 ≤ sizeLine; decide) sqT_new (fun j x H' Qy hx s1 qy => ?_) fun L0 H1 ys n1 s1 e1 l1 hy => ?_
  · obtain ⟨a, rfl, ta, la⟩ := src j x hx
    have ta1 := sqT_same ta (s0.trans s1)
    refine ⟨_, rfl, a, rfl, ⟨_, ta1⟩, ?_⟩
    refine lcT (K := K) (i := 3) notV (by rw [bls_len]; exact row_line la) ta1 (fun k y H2 Qz hy s2 qz => ?_) fun L1 H2 n2 s2 e2 => ?_
    · rw [bls_get] at hy
      obtain ⟨b, _, e⟩ := Option.map_eq_some_iff.mp hy
      subst e
      exact ⟨_, rfl, b, rfl, qz H2 (Same.refl H2)⟩
    · rw [bls_not] at e2
      exact ⟨L1, _, rfl, .inl (sqL_at e2), fun p1 H3 s3 t3 => qy _ H3 (s2.trans s3) ⟨p1, rfl, t3⟩⟩
  · obtain ⟨y0, y1, y2, rfl, ⟨q0, rfl, t0⟩, ⟨q1, rfl, t1⟩, ⟨q2, rfl, t2⟩⟩ := three (R := fun j y H' => ∃ q, y = .ref q ∧ SqT K H' q (bls ((row3 F j).map (!·)))) l1 hy
    have s01 := s0.trans s1
    refine ⟨_, rfl, p, C, dx1, _, _, rfl, s01 _ _ f1, R.cl, R.no _ (by simp), fld_start _ _ _ _, _, rfl, L0, _, _, .ref q0, rfl, rfl, sqL_at e1, rfl, _, rfl, L0, _, _, .ref q1, rfl, rfl, sqL_at e1, rfl, _, rfl, L0, _, _, .ref q2, rfl, rfl, sqL_at e1, rfl, ?_⟩
    have nb : F.2.1.map (!·) ≠ [] := by simpa using ok.nb
    have na : F.2.2.2.map (!·) ≠ [] := by simpa using ok.na
    have lb : (F.2.1.map (!·)).length ≤ 20000 := by rw [List.length_map]; exact ok.zb
    have la : (F.2.2.2.map (!·)).length ≤ 20000 := by rw [List.length_map]; exact ok.za
    have lm : (F.2.2.1.map (!·)).length ≤ 100000 := by rw [List.length_map]; exact ok.zm
    exact rounds_made (rb := F.2.1.map (!·)) (rm := F.2.2.1.map (!·)) (ra := F.2.2.2.map (!·)) t0 (.inr t1) t2 nb na (row_line (by omega)) (row_line (by omega)) (row_line (by omega))
      fun D q3 H' hD s hR => q D q3 H' hD (s01.trans s) ⟨hR, fok_of nb na lb la lm hD⟩

/-! ### spread -/
def spSr (K : PySem.W.Frag) : Sp := fun vs H Q _ => ∃ (a : Addr) (r : Row) (k : Nat), vs = [.ref a, .int k] ∧ SqT K H a (bls r) ∧ 0 < k ∧ k ≤ 20000 ∧ k * r.length ≤ 20000 ∧ ∀ (t : Row) q H', t.length = k * r.length → Same H H' → SqT K H' q (bls t) → Q (.ref q) H'
theorem ok_sr (h : Has K mg "spread_row" s_spread_row) (T : Tx K mg) : Df P w K mg base 1 "spread_row" ["row", "k"] (spSr K) := by
  refine h.df c_spread_row (fun _ _ _ _ _ _ us hl => match us, hl with | [_, _], _ => rfl) (fun vs H Q E ⟨_, _, _, e, _⟩ => by rw [e]; rfl) fun f cdv A outer s H vs Q E hr hs => ?_
  obtain ⟨a, r, k, rfl, ha, hk, hk2, hz, q⟩ := hs
  refine ⟨_, (pss_one (ps_ret (pe_callTy (tupS (K := K) rfl) (by rfl) T.tuple boot_tuple (pa_cons (pe_lc (own := [("at", 2)]) (g := gName 2) (tt := tYes) rfl c_spread_row.nd (pi_rg1 (by rfl) T.range (pa_cons (pe_op op_mul (pv 1) (pe_callB (lenS (K := K) rfl) (by rfl) T.len boot_len (pa_cons (pv 0) pa_nil))) pa_nil)) (blkOk_by (N := n_spread_row) (sc := defScope s_spread_row) (by decide +kernel)) (fun _ _ _ _ _ => pg_name (i := 2) c_spread_row.nd rfl (Or.inl rfl)) (fun _ _ _ _ _ => pts_nil) (fun _ _ _ _ _ => (pe_ifExp (pt_cmpR op_eq (pe_op op_mod (pv 2) (pv 1)) pe_int (nomark _)) (pe_ix (ixT (K := K) rfl) (pv 0) (pe_op op_fdiv (pv 2) (pv 1)) (fun _ _ => rfl)) pe_bl))) pa_nil)))), ?_⟩
  refine ⟨_, rfl, _, rfl, a, _, rfl, .inr ha, _, _, rfl, rfl, .inl (by omega), _, rfl, ?_⟩
  have en : ((k : Int) * ((bls r).length : Int)).toNat = k * r.length := by
    rw [bls_len, ← Int.natCast_mul, Int.toNat_natCast]
  rw [en]
  refine lcR (i := 2) (fun j => .bl (if j % k = 0 then r.getD (j / k) false else false)) (Nat.le_trans hz (show 20000 ≤ sizeLine by decide)) (fun j H' Qy hj s1 qy => ?_) fun L0 H1 n1 s1 e1 => ?_
  · have h0 : (0 : Int) + (j : Int) = j := by omega
    rw [h0]
    refine ⟨_, rfl, _, rfl, _, _, rfl, rfl, (by omega : (0 : Int) < k), rfl, _, rfl, ?_⟩
    by_cases hm : j % k = 0
    · rw [if_pos hm] at qy
      refine iteBT (decide_eq_true (congrArg V.int (by omega))) ?_
      refine ⟨_, rfl, _, rfl, _, rfl, _, _, rfl, rfl, ⟨by omega, by omega⟩, a, _, _, .bl (r.getD (j / k) false), rfl, rfl, sqT_same ha s1, ?_, qy H' (Same.refl H')⟩
      have hlt : j / k < r.length := Nat.div_lt_of_lt_mul hj
      show atI (bls r) ((j : Int) / (k : Int)) = _
      rw [← Int.natCast_ediv]
      refine atI_nat ?_
      rw [bls_get, List.getD_eq_getElem?_getD, List.getElem?_eq_getElem hlt]
      rfl
    · rw [if_neg hm] at qy
      exact iteBF (decide_eq_false fun z => hm (by have := V.int.inj z; omega)) (qy H' (Same.refl H'))
  · have e2 : H1 L0 = some (.lst (bls ((List.range (k * r.length)).map fun j => if j % k = 0 then r.getD (j / k) false else false))) := by
      rw [e1]
      unfold bls
      rw [List.map_map]
      rfl
    exact ⟨L0, _, rfl, .inl (sqL_at e2), fun p2 H2 s2 t2 => q _ p2 H2 (by simp) (s1.trans s2) t2⟩
def topR (F : Form) : Nat := max F.2.2.2.length F.2.1.length
def spSpread (K : PySem.W.Frag) (C TM : Addr) (pos : Bool) : Sp := fun vs H Q E => ∃ (p : Addr) (F : Form) (k r : Int), vs = [.ref p, .int k, .int r] ∧ RF K C H p F ∧ k ≠ 0 ∧ k.natAbs ≤ 1000000 ∧ (pos = true → 0 < k) ∧
  (20000 < k.natAbs * topR F → Rz TM (tmF "period") H E) ∧ (k.natAbs * topR F ≤ 20000 → (20000 < k.natAbs * F.2.2.1.length → Rz TM (tmF "middle") H E) ∧ (k.natAbs * F.2.2.1.length ≤ 20000 → ∀ D q H', Same H H' → RF K C H' q D → Q (.ref q) H'))
theorem abs_nat (k : Int) : (if k < 0 then -k else k) = ((k.natAbs : Nat) : Int) := by split <;> omega
theorem ok_spread {C BN TM : Addr} {tL : Tok} (pos : Bool) (h : HasM K C "spread" "Rounds.spread" s_R_spread) (R : RC K mg C) (T : Tx K mg) (LM : mg "LIMIT" = some (.int 20000 tL)) (DC : Df P w K mg base 3 "check_int" ["what", "value"] (spCheck K BN)) (DS : Df P w K mg base 1 "spread_row" ["row", "k"] (spSr K))
    (CK : Ck P w K mg base "Rounds" C 4 ["self", "start", "below", "middle", "above"] (spRi K C)) (BT : ErD P w K mg base "TooMany" TM 1 ["self", "what", "limit"] (spEr TM 2 (fs2 "what" "limit"))) (MN : Md P w K mg base C 6 "__neg__" ["self"] (spNeg K C))
    (rec_ : pos = false → Md P w K mg base C 7 "spread" ["self", "k", "r"] (spSpread K C TM true)) : Md P w K mg base C (if pos then 7 else 8) "spread" ["self", "k", "r"] (spSpread K C TM pos) := by
  have bodyP : ∀ f, BodyOk P w K mg base 6 "Rounds.spread" s_R_spread n_R_spread (spSpread K C TM true) f := by
    intro f cdv A outer s H vs Q E hr hs
    obtain ⟨p, F, k, r, rfl, hF, hk0, hkz, hkp, qP, qM⟩ := hs
    have hkp := hkp rfl
    obtain ⟨⟨dx1, b1, m1, a1, f1, f2, f3, f4⟩, ok⟩ := id hF
    refine ⟨_, (pss_cons (ps_expr (pe_df DC (hr.mono (by decide)) passL (by rfl) (pa_cons pe_str (pa_cons (pv 1) pa_nil))))
    (pss_cons (ps_expr (pe_df DC (hr.mono (by decide)) passL (by rfl) (pa_cons pe_str (pa_cons (pv 2) pa_nil))))
    (pss_cons (ps_if (pt_cmpR op_gt (pe_op op_mul (pe_callB call_abs (by rfl) T.abs boot_abs (pa_cons (pv 1) pa_nil)) (pe_callB (call_max2 rfl) (by rfl) T.max boot_max (pa_cons (pe_callB (lenS (K := K) rfl) (by rfl) T.len boot_len (pa_cons (fldS (K := K) rfl (pv 0)) pa_nil)) (pa_cons (pe_callB (lenS (K := K) rfl) (by rfl) T.len boot_len (pa_cons (fldS (K := K) rfl (pv 0)) pa_nil)) pa_nil)))) (pe_glob (v := .int 20000) (by rfl) LM ⟨_, rfl⟩) (nomark _)) (pss_one (ps_raise rfl (takes_of rfl rfl rfl rfl) (pmk_er BT (hr.mono (by decide)) (by rfl) (pa_cons pe_str (pa_cons (pe_glob (v := .int 20000) (by rfl) LM ⟨_, rfl⟩) pa_nil))))) pss_nil)
    (pss_cons (ps_if (pt_cmpR op_gt (pe_op op_mul (pe_callB call_abs (by rfl) T.abs boot_abs (pa_cons (pv 1) pa_nil)) (pe_callB (lenS (K := K) rfl) (by rfl) T.len boot_len (pa_cons (fldS (K := K) rfl (pv 0)) pa_nil))) (pe_glob (v := .int 20000) (by rfl) LM ⟨_, rfl⟩) (nomark _)) (pss_one (ps_raise rfl (takes_of rfl rfl rfl rfl) (pmk_er BT (hr.mono (by decide)) (by rfl) (pa_cons pe_str (pa_cons (pe_glob (v := .int 20000) (by rfl) LM ⟨_, rfl⟩) pa_nil))))) pss_nil)
    (pss_cons (ps_if (pt_cmpR op_eq (pv 1) pe_int (nomark _)) (pss_one ps_never) pss_nil)
    (pss_cons (ps_if (pt_cmpR op_lt (pv 1) pe_int (nomark _)) (pss_one ps_never) pss_nil)
    (pss_cons (ps_setLc (i := 3) (own := [("row", 4)]) (g := gName 4) (tt := tYes) rfl c_R_spread.nd rfl rfl (sw_true rfl rfl rfl (by decide +kernel)) (piT (K := K) rfl (pe_tup (pa_cons (fldS (K := K) rfl (pv 0)) (pa_cons (fldS (K := K) rfl (pv 0)) (pa_cons (fldS (K := K) rfl (pv 0)) pa_nil))))) (blkOk_by (N := n_R_spread) (sc := defScope s_R_spread) (by decide +kernel)) (fun _ _ _ _ _ => pg_name (i := 4) c_R_spread.nd rfl (Or.inl rfl)) (fun _ _ _ _ _ => pts_nil) (fun _ _ _ _ _ => (pe_df DS (hr.mono (by decide)) passL (by rfl) (pa_cons (pv 4) (pa_cons (pv 1) pa_nil)))))
    (pss_one (ps_ret (pe_ck CK (hr.mono (by decide)) passL (by rfl) (pa_cons (pe_op op_add (pe_op op_mul (pv 1) (fldS (K := K) rfl (pv 0))) (pv 2)) (pa_cons (pe_ix (ixL (K := K) rfl) (pv 3) pe_int (fun _ _ => rfl)) (pa_cons (pe_ix (ixL (K := K) rfl) (pv 3) pe_int (fun _ _ => rfl)) (pa_cons (pe_ix (ixL (K := K) rfl) (pv 3) pe_int (fun _ _ => rfl)) pa_nil)))))))))))))), ?_⟩
    have la := List.length_pos_iff.mpr ok.na
    refine ⟨_, rfl, _, _, .int k, rfl, .int k, (fun _ => ?_), fun z => by cases z⟩
    refine ⟨_, rfl, _, _, .int r, rfl, .int r, (fun _ => ?_), fun z => by cases z⟩
    refine ⟨_, rfl, _, rfl, _, rfl, p, C, dx1, _, _, rfl, f1, R.cl, R.no _ (by simp), fld_above _ _ _ _, a1, _, rfl, .inr f4, _, rfl, p, C, dx1, _, _, rfl, f1, R.cl, R.no _ (by simp), fld_below _ _ _ _, b1, _, rfl, .inr f2, _, _, rfl, _, _, rfl, rfl, .inl ?_, _, _, rfl, rfl, _, rfl, ?_⟩
    · rw [abs_nat]
      omega
    rw [bls_len, bls_len, abs_nat, max_nat, ← Int.natCast_mul]
    have eT : k.natAbs * max F.2.2.2.length F.2.1.length = k.natAbs * topR F := rfl
    rw [eT]
    by_cases hp : 20000 < k.natAbs * topR F
    · exact iteBT (decide_eq_true (by omega)) (rz_make (n := 2) (ws := [.str "period", .int 20000]) rfl (by decide) (qP hp))
    refine iteBF (decide_eq_false (by omega)) ?_
    obtain ⟨q3, q4⟩ := qM (by omega)
    refine ⟨_, rfl, _, rfl, _, rfl, p, C, dx1, _, _, rfl, f1, R.cl, R.no _ (by simp), fld_middle _ _ _ _, m1, _, rfl, .inr f3, _, _, rfl, rfl, .inl ?_, _, _, rfl, rfl, _, rfl, ?_⟩
    · rw [abs_nat]
      omega
    rw [bls_len, abs_nat, ← Int.natCast_mul]
    by_cases hm : 20000 < k.natAbs * F.2.2.1.length
    · exact iteBT (decide_eq_true (by omega)) (rz_make (n := 2) (ws := [.str "middle", .int 20000]) rfl (by decide) (q3 hm))
    refine iteBF (decide_eq_false (by omega)) ?_
    refine ⟨_, rfl, rfl, _, rfl, iteBF (decide_eq_false fun z => hk0 (V.int.inj z)) ?_⟩
    refine ⟨_, rfl, _, _, rfl, rfl, _, rfl, iteBF (decide_eq_false (by omega)) ?_⟩
    obtain ⟨kn, rfl⟩ : ∃ kn : Nat, k = kn := ⟨k.toNat, by omega⟩
    rw [Int.natAbs_natCast] at hp hm q4
    have l1 : kn * F.2.1.length ≤ kn * topR F := Nat.mul_le_mul_left _ (Nat.le_max_right _ _)
    have l2 : kn * F.2.2.2.length ≤ kn * topR F := Nat.mul_le_mul_left _ (Nat.le_max_left _ _)
    have hk20 : kn ≤ 20000 := by
      have : kn * 1 ≤ kn * F.2.2.2.length := Nat.mul_le_mul_left _ la
      omega
    have src : ∀ j x, ([.ref b1, .ref m1, .ref a1] : List V)[j]? = some x → ∃ a, x = .ref a ∧ SqT K H a (bls (row3 F j)) ∧ kn * (row3 F j).length ≤ 20000 := fun j x e => by
      match j, e with
      | 0, e => cases e; exact ⟨b1, rfl, f2, by show kn * F.2.1.length ≤ _; omega⟩
      | 1, e => cases e; exact ⟨m1, rfl, f3, by show kn * F.2.2.1.length ≤ _; omega⟩
      | 2, e => cases e; exact ⟨a1, rfl, f4, by show kn * F.2.2.2.length ≤ _; omega⟩
    refine ⟨_, rfl, p, C, dx1, _, _, rfl, f1, R.cl, R.no _ (by simp), fld_below _ _ _ _, _, rfl, p, C, dx1, _, _, rfl, f1, R.cl, R.no _ (by simp), fld_middle _ _ _ _, _, rfl, p, C, dx1, _, _, rfl, f1, R.cl, R.no _ (by simp), fld_above _ _ _ _, (by show 3 ≤ sizeLine; decide), fun p0 n0 => ⟨p0, rfl, ⟨_, sqT_new⟩, ?_⟩⟩
    have s0 := same_upd (o := .tup [.ref b1, .ref m1, .ref a1]) n0
    refine lcTR (K := K) (i := 4) (xs := [.ref b1, .ref m1, .ref a1]) (fun j y H' => ∃ q t, y = .ref q ∧ SqT K H' q (bls t) ∧ t.length = kn * (row3 F j).length) (fun j y H1 H2 ⟨q, t, e, ht, hl⟩ nl => ⟨q, t, e, sqT_nl ht nl, hl⟩) (by show 3 ≤ sizeLine; decide) sqT_new (fun j x H' Qy hx s1 qy => ?_) fun L0 H1 ys n1 s1 e1 l1' hy => ?_
    · obtain ⟨a, rfl, ta, la'⟩ := src j x hx
      exact ⟨_, rfl, _, rfl, a, _, kn, rfl, sqT_same ta (s0.trans s1), by omega, hk20, la', fun t q1 H2 hl s2 t2 => qy _ H2 s2 ⟨q1, t, rfl, t2, hl⟩⟩
    · obtain ⟨y0, y1, y2, rfl, ⟨q0, t0, rfl, ht0, hl0⟩, ⟨q1, t1, rfl, ht1, hl1⟩, ⟨q2, t2, rfl, ht2, hl2⟩⟩ := three (R := fun j y H' => ∃ q t, y = .ref q ∧ SqT K H' q (bls t) ∧ t.length = kn * (row3 F j).length) l1' hy
      have s01 := s0.trans s1
      refine ⟨_, rfl, _, rfl, p, C, dx1, _, _, rfl, s01 _ _ f1, R.cl, R.no _ (by simp), fld_start _ _ _ _, _, _, rfl, rfl, .inl (by omega), _, rfl, _, _, rfl, rfl, _, rfl, L0, _, _, .ref q0, rfl, rfl, sqL_at e1, rfl, _, rfl, L0, _, _, .ref q1, rfl, rfl, sqL_at e1, rfl, _, rfl, L0, _, _, .ref q2, rfl, rfl, sqL_at e1, rfl, ?_⟩
      have lb := List.length_pos_iff.mpr ok.nb
      have c0 : t0.length = kn * F.2.1.length := hl0
      have c1 : t1.length = kn * F.2.2.1.length := hl1
      have c2 : t2.length = kn * F.2.2.2.length := hl2
      have nb : t0 ≠ [] := fun z => by
        rw [z] at c0
        have := Nat.mul_pos (show 0 < kn by omega) lb
        simp at c0
        omega
      have na : t2 ≠ [] := fun z => by
        rw [z] at c2
        have := Nat.mul_pos (show 0 < kn by omega) la
        simp at c2
        omega
      exact rounds_made ht0 (.inr ht1) ht2 nb na (row_line (by omega)) (row_line (by omega)) (row_line (by omega))
        fun D q3 H' hD s hR => q4 (by omega) D q3 H' (s01.trans s) ⟨hR, fok_of nb na (by omega) (by omega) (by omega) hD⟩
  cases pos with
  | true => exact h.md c_R_spread (fun _ _ _ _ _ _ us hl => match us, hl with | [_, _, _], _ => rfl) (fun vs H Q E ⟨_, _, _, _, e, _⟩ => by rw [e]; rfl) bodyP
  | false =>
    have MS := rec_ rfl
    obtain ⟨fn, fdn, mn, Fn, bn⟩ := MN.ex
    refine h.md c_R_spread (fun _ _ _ _ _ _ us hl => match us, hl with | [_, _, _], _ => rfl) (fun vs H Q E ⟨_, _, _, _, e, _⟩ => by rw [e]; rfl) fun f cdv A outer s H vs Q E hr hs => ?_
    obtain ⟨p, F, k, r, rfl, hF, hk0, hkz, _, qP, qM⟩ := hs
    by_cases hkp : 0 < k
    · exact bodyP f cdv A outer s H _ Q E (hr.mono (by decide)) ⟨p, F, k, r, rfl, hF, hk0, hkz, fun _ => hkp, qP, qM⟩
    obtain ⟨⟨dx1, b1, m1, a1, f1, f2, f3, f4⟩, ok⟩ := id hF
    refine ⟨_, (pss_cons (ps_expr (pe_df DC (hr.mono (by decide)) passL (by rfl) (pa_cons pe_str (pa_cons (pv 1) pa_nil))))
    (pss_cons (ps_expr (pe_df DC (hr.mono (by decide)) passL (by rfl) (pa_cons pe_str (pa_cons (pv 2) pa_nil))))
    (pss_cons (ps_if (pt_cmpR op_gt (pe_op op_mul (pe_callB call_abs (by rfl) T.abs boot_abs (pa_cons (pv 1) pa_nil)) (pe_callB (call_max2 rfl) (by rfl) T.max boot_max (pa_cons (pe_callB (lenS (K := K) rfl) (by rfl) T.len boot_len (pa_cons (fldS (K := K) rfl (pv 0)) pa_nil)) (pa_cons (pe_callB (lenS (K := K) rfl) (by rfl) T.len boot_len (pa_cons (fldS (K := K) rfl (pv 0)) pa_nil)) pa_nil)))) (pe_glob (v := .int 20000) (by rfl) LM ⟨_, rfl⟩) (nomark _)) (pss_one (ps_raise rfl (takes_of rfl rfl rfl rfl) (pmk_er BT (hr.mono (by decide)) (by rfl) (pa_cons pe_str (pa_cons (pe_glob (v := .int 20000) (by rfl) LM ⟨_, rfl⟩) pa_nil))))) pss_nil)
    (pss_cons (ps_if (pt_cmpR op_gt (pe_op op_mul (pe_callB call_abs (by rfl) T.abs boot_abs (pa_cons (pv 1) pa_nil)) (pe_callB (lenS (K := K) rfl) (by rfl) T.len boot_len (pa_cons (fldS (K := K) rfl (pv 0)) pa_nil))) (pe_glob (v := .int 20000) (by rfl) LM ⟨_, rfl⟩) (nomark _)) (pss_one (ps_raise rfl (takes_of rfl rfl rfl rfl) (pmk_er BT (hr.mono (by decide)) (by rfl) (pa_cons pe_str (pa_cons (pe_glob (v := .int 20000) (by rfl) LM ⟨_, rfl⟩) pa_nil))))) pss_nil)
    (pss_cons (ps_if (pt_cmpR op_eq (pv 1) pe_int (nomark _)) (pss_one ps_never) pss_nil)
    (pss_cons (ps_if (pt_cmpR op_lt (pv 1) pe_int (nomark _)) (pss_one (ps_ret (pe_md MS R.cl hr passL (pe_un (un_own (.inl ⟨rfl, rfl⟩) mn Fn (hr.mono (by decide)) bn passL) (pv 0)) (pa_cons (pe_un un_neg (pv 1)) (pa_cons (pv 2) pa_nil))))) pss_nil)
    pss_never)))))), ?_⟩
    have la := List.length_pos_iff.mpr ok.na
    refine ⟨_, rfl, _, _, .int k, rfl, .int k, (fun _ => ?_), fun z => by cases z⟩
    refine ⟨_, rfl, _, _, .int r, rfl, .int r, (fun _ => ?_), fun z => by cases z⟩
    refine ⟨_, rfl, _, rfl, _, rfl, p, C, dx1, _, _, rfl, f1, R.cl, R.no _ (by simp), fld_above _ _ _ _, a1, _, rfl, .inr f4, _, rfl, p, C, dx1, _, _, rfl, f1, R.cl, R.no _ (by simp), fld_below _ _ _ _, b1, _, rfl, .inr f2, _, _, rfl, _, _, rfl, rfl, .inl ?_, _, _, rfl, rfl, _, rfl, ?_⟩
    · rw [abs_nat]
      omega
    rw [bls_len, bls_len, abs_nat, max_nat, ← Int.natCast_mul]
    have eT : k.natAbs * max F.2.2.2.length F.2.1.length = k.natAbs * topR F := rfl
    rw [eT]
    by_cases hp : 20000 < k.natAbs * topR F
    · exact iteBT (decide_eq_true (by omega)) (rz_make (n := 2) (ws := [.str "period", .int 20000]) rfl (by decide) (qP hp))
    refine iteBF (decide_eq_false (by omega)) ?_
    obtain ⟨q3, q4⟩ := qM (by omega)
    refine ⟨_, rfl, _, rfl, _, rfl, p, C, dx1, _, _, rfl, f1, R.cl, R.no _ (by simp), fld_middle _ _ _ _, m1, _, rfl, .inr f3, _, _, rfl, rfl, .inl ?_, _, _, rfl, rfl, _, rfl, ?_⟩
    · rw [abs_nat]
      omega
    rw [bls_len, abs_nat, ← Int.natCast_mul]
    by_cases hm : 20000 < k.natAbs * F.2.2.1.length
    · exact iteBT (decide_eq_true (by omega)) (rz_make (n := 2) (ws := [.str "middle", .int 20000]) rfl (by decide) (q3 hm))
    refine iteBF (decide_eq_false (by omega)) ?_
    refine ⟨_, rfl, rfl, _, rfl, iteBF (decide_eq_false fun z => hk0 (V.int.inj z)) ?_⟩
    refine ⟨_, rfl, _, _, rfl, rfl, _, rfl, iteBT (decide_eq_true (by omega)) ?_⟩
    refine ⟨_, rfl, p, dx1, _, rfl, f1, p, F, rfl, hF, fun D q1 H1 hD s1 hR => ?_⟩
    have nb : F.2.2.2.reverse ≠ [] := by simpa using ok.na
    have na : F.2.1.reverse ≠ [] := by simpa using ok.nb
    obtain ⟨z1, z2, _, _, _, _, z7⟩ := form_rows nb na hD
    rw [lstep_rev ok.na, ok.pa] at z1
    rw [lstep_rev ok.nb, ok.pb] at z2
    rw [List.length_reverse] at z7
    obtain ⟨dx2, b2, m2, a2, g1, _⟩ := id hR.1
    have etop : topR D = topR F := by
      unfold topR
      rw [z1, z2, Nat.max_comm]
    have em : k.natAbs * D.2.2.1.length ≤ k.natAbs * F.2.2.1.length := Nat.mul_le_mul_left _ z7
    refine ⟨q1, dx2, _, rfl, g1, rfl, _, rfl, _, rfl, _, rfl, q1, D, -k, r, rfl, hR, by omega, by omega, fun _ => by omega, ?_, fun _ => ⟨?_, fun _ D2 q2 H2 s2 hR2 => q4 (by omega) D2 q2 H2 (s1.trans s2) hR2⟩⟩
    · rw [etop, Int.natAbs_neg]
      exact fun z => absurd z hp
    · rw [Int.natAbs_neg]
      intro z
      omega

/-! ### sums, shifts -/
def perS (F G : Form) : Nat := max (F.2.2.2.length * G.2.2.2.length) (F.2.1.length * G.2.1.length)
/-- sums, where it must refuse -/
def spSums (K : PySem.W.Frag) (C TM : Addr) : Sp := fun vs H Q E => ∃ p F o G, vs = [.ref p, .ref o] ∧ RF K C H p F ∧ RF K C H o G ∧ ((20000 < perS F G ∧ Rz TM (tmF "period") H E) ∨ (perS F G ≤ 20000 ∧ 20000 < F.2.2.1.length + G.2.2.1.length ∧ Rz TM (tmF "middle") H E))
theorem ok_sums {C TM : Addr} {tL : Tok} (h : Has K mg "sums" s_sums) (R : RC K mg C) (T : Tx K mg) (LM : mg "LIMIT" = some (.int 20000 tL)) (BT : ErD P w K mg base "TooMany" TM 1 ["self", "what", "limit"] (spEr TM 2 (fs2 "what" "limit"))) :
    Df P w K mg base 3 "sums" ["one", "other"] (spSums K C TM) := by
  refine h.df c_sums (fun _ _ _ _ _ _ us hl => match us, hl with | [_, _], _ => rfl) (fun vs H Q E ⟨_, _, _, _, e, _⟩ => by rw [e]; rfl) fun f cdv A outer s H vs Q E hr hs => ?_
  obtain ⟨p, F, o, G, rfl, hF, hG, q⟩ := hs
  obtain ⟨⟨dx1, b1, m1, a1, f1, f2, f3, f4⟩, okF⟩ := id hF
  obtain ⟨⟨dx2, b2, m2, a2, g1, g2, g3, g4⟩, okG⟩ := id hG
  refine ⟨_, (pss_cons (ps_if (pt_cmpR op_gt (pe_callB (call_max2 rfl) (by rfl) T.max boot_max (pa_cons (pe_op op_mul (pe_callB (lenS (K := K) rfl) (by rfl) T.len boot_len (pa_cons (fldS (K := K) rfl (pv 0)) pa_nil)) (pe_callB (lenS (K := K) rfl) (by rfl) T.len boot_len (pa_cons (fldS (K := K) rfl (pv 1)) pa_nil))) (pa_cons (pe_op op_mul (pe_callB (lenS (K := K) rfl) (by rfl) T.len boot_len (pa_cons (fldS (K := K) rfl (pv 0)) pa_nil)) (pe_callB (lenS (K := K) rfl) (by rfl) T.len boot_len (pa_cons (fldS (K := K) rfl (pv 1)) pa_nil))) pa_nil))) (pe_glob (v := .int 20000) (by rfl) LM ⟨_, rfl⟩) (nomark _)) (pss_one (ps_raise rfl (takes_of rfl rfl rfl rfl) (pmk_er BT hr (by rfl) (pa_cons pe_str (pa_cons (pe_glob (v := .int 20000) (by rfl) LM ⟨_, rfl⟩) pa_nil))))) pss_nil)
    (pss_cons (ps_if (pt_cmpR op_gt (pe_op op_add (pe_callB (lenS (K := K) rfl) (by rfl) T.len boot_len (pa_cons (fldS (K := K) rfl (pv 0)) pa_nil)) (pe_callB (lenS (K := K) rfl) (by rfl) T.len boot_len (pa_cons (fldS (K := K) rfl (pv 1)) pa_nil))) (pe_glob (v := .int 20000) (by rfl) LM ⟨_, rfl⟩) (nomark _)) (pss_one (ps_raise rfl (takes_of rfl rfl rfl rfl) (pmk_er BT hr (by rfl) (pa_cons pe_str (pa_cons (pe_glob (v := .int 20000) (by rfl) LM ⟨_, rfl⟩) pa_nil))))) pss_nil)
    pss_never)), ?_⟩
  have zb := okF.zb
  have za := okF.za
  refine ⟨_, rfl, p, C, dx1, _, _, rfl, f1, R.cl, R.no _ (by simp), fld_above _ _ _ _, a1, _, rfl, .inr f4, _, rfl, o, C, dx2, _, _, rfl, g1, R.cl, R.no _ (by simp), fld_above _ _ _ _, a2, _, rfl, .inr g4, _, _, rfl, rfl, .inl (by rw [bls_len]; omega), ?_⟩
  refine ⟨_, rfl, p, C, dx1, _, _, rfl, f1, R.cl, R.no _ (by simp), fld_below _ _ _ _, b1, _, rfl, .inr f2, _, rfl, o, C, dx2, _, _, rfl, g1, R.cl, R.no _ (by simp), fld_below _ _ _ _, b2, _, rfl, .inr g2, _, _, rfl, rfl, .inl (by rw [bls_len]; omega), _, _, rfl, _, _, rfl, rfl, _, rfl, ?_⟩
  rw [bls_len, bls_len, bls_len, bls_len, ← Int.natCast_mul, ← Int.natCast_mul, max_nat]
  have eP : max (F.2.2.2.length * G.2.2.2.length) (F.2.1.length * G.2.1.length) = perS F G := rfl
  rw [eP]
  rcases q with ⟨hp, q⟩ | ⟨hp, hm, q⟩
  · exact iteBT (decide_eq_true (by omega)) (rz_make (n := 2) (ws := [.str "period", .int 20000]) rfl (by decide) q)
  · refine iteBF (decide_eq_false (by omega)) ?_
    refine ⟨_, rfl, p, C, dx1, _, _, rfl, f1, R.cl, R.no _ (by simp), fld_middle _ _ _ _, m1, _, rfl, .inr f3, _, rfl, o, C, dx2, _, _, rfl, g1, R.cl, R.no _ (by simp), fld_middle _ _ _ _, m2, _, rfl, .inr g3, _, _, rfl, rfl, _, _, rfl, rfl, _, rfl, ?_⟩
    rw [bls_len, bls_len]
    exact iteBT (decide_eq_true (by omega)) (rz_make (n := 2) (ws := [.str "middle", .int 20000]) rfl (by decide) q)
/-- shifts, where it must refuse -/
def spShifts (K : PySem.W.Frag) (C TM : Addr) : Sp := fun vs H Q E => ∃ p F o G, vs = [.ref p, .ref o] ∧ RF K C H p F ∧ RF K C H o G ∧ 20000 < max (F.2.1.length * G.2.2.2.length) (F.2.2.2.length * G.2.1.length) ∧ Rz TM (tmF "period") H E
theorem ok_shifts {C TM : Addr} (h : Has K mg "shifts" s_shifts) (DS : Df P w K mg base 3 "sums" ["one", "other"] (spSums K C TM)) (MN : Md P w K mg base C 6 "__neg__" ["self"] (spNeg K C)) (MI : Md P w K mg base C 6 "__invert__" ["self"] (spInv K C)) :
    Df P w K mg base 7 "shifts" ["one", "other"] (spShifts K C TM) := by
  refine h.df c_shifts (fun _ _ _ _ _ _ us hl => match us, hl with | [_, _], _ => rfl) (fun vs H Q E ⟨_, _, _, _, e, _⟩ => by rw [e]; rfl) fun f cdv A outer s H vs Q E hr hs => ?_
  obtain ⟨p, F, o, G, rfl, hF, hG, hp, q⟩ := hs
  obtain ⟨⟨dx1, b1, m1, a1, f1, _⟩, okF⟩ := id hF
  obtain ⟨⟨dx2, b2, m2, a2, g1, _⟩, okG⟩ := id hG
  obtain ⟨fn, fdn, mn, Fn, bn⟩ := MN.ex
  obtain ⟨fi, fdi, mi, Fi, bi⟩ := MI.ex
  refine ⟨_, pss_one (ps_ret (pe_un (un_own (.inr ⟨rfl, rfl⟩) mi Fi hr bi passL) (pe_df DS (hr.mono (by decide)) (thru rfl rfl rfl rfl) (by rfl) (pa_cons (pe_un (un_own (.inl ⟨rfl, rfl⟩) mn Fn hr bn passL) (pv 0)) (pa_cons (pe_un (un_own (.inr ⟨rfl, rfl⟩) mi Fi hr bi passL) (pv 1)) pa_nil))))), ?_⟩
  refine ⟨_, rfl, p, dx1, _, rfl, f1, p, F, rfl, hF, fun D q1 H1 hD s1 hR => ?_⟩
  refine ⟨_, rfl, o, dx2, _, rfl, s1 _ _ g1, o, G, rfl, hG.same s1, fun D2 q2 H2 hD2 s2 hR2 => ?_⟩
  have nb : F.2.2.2.reverse ≠ [] := by simpa using okF.na
  have na : F.2.1.reverse ≠ [] := by simpa using okF.nb
  obtain ⟨z1, z2, _⟩ := form_rows nb na hD
  rw [lstep_rev okF.na, okF.pa] at z1
  rw [lstep_rev okF.nb, okF.pb] at z2
  have nb2 : G.2.1.map (!·) ≠ [] := by simpa using okG.nb
  have na2 : G.2.2.2.map (!·) ≠ [] := by simpa using okG.na
  obtain ⟨y1, y2, _⟩ := form_rows nb2 na2 hD2
  rw [lstep_not okG.nb, okG.pb] at y1
  rw [lstep_not okG.na, okG.pa] at y2
  refine ⟨q1, D, q2, D2, rfl, hR.same s2, hR2, .inl ⟨?_, (q.same s1).same s2⟩⟩
  unfold perS
  rw [z1, z2, y1, y2]
  exact hp
end
end Rk
set_option maxHeartbeats 4000000
/-! The law's defs, first part: what stays, the pen, draws. -/
namespace Rk
open PySem PySem.Spec PyProof.Rows L2

/-! ### what stays -/
def isDK : HO → Bool
  | .dK _ => true
  | _ => false
def isTb : HO → Bool
  | .tbl _ => true
  | _ => false
/-- all but the dicts stand; all but the tables; all but both -/
def ND (H H' : Hp) : Prop := ∀ b o, H b = some o → isDK o = false → H' b = some o
def NT (H H' : Hp) : Prop := ∀ b o, H b = some o → isTb o = false → H' b = some o
def KP (H H' : Hp) : Prop := ∀ b o, H b = some o → isDK o = false → isTb o = false → H' b = some o
theorem Same.nd {H H' : Hp} (s : Same H H') : ND H H' := fun b o e _ => s b o e
theorem Same.nt {H H' : Hp} (s : Same H H') : NT H H' := fun b o e _ => s b o e
theorem Same.kp {H H' : Hp} (s : Same H H') : KP H H' := fun b o e _ _ => s b o e
theorem ND.kp {H H' : Hp} (s : ND H H') : KP H H' := fun b o e h _ => s b o e h
theorem NT.kp {H H' : Hp} (s : NT H H') : KP H H' := fun b o e _ h => s b o e h
theorem ND.trans {H H1 H2 : Hp} (a : ND H H1) (b : ND H1 H2) : ND H H2 := fun c o e h => b c o (a c o e h) h
theorem NT.trans {H H1 H2 : Hp} (a : NT H H1) (b : NT H1 H2) : NT H H2 := fun c o e h => b c o (a c o e h) h
theorem KP.trans {H H1 H2 : Hp} (a : KP H H1) (b : KP H1 H2) : KP H H2 := fun c o e h h' => b c o (a c o e h h') h h'
theorem ND.refl (H : Hp) : ND H H := fun _ _ e _ => e
theorem NT.refl (H : Hp) : NT H H := fun _ _ e _ => e
theorem KP.refl (H : Hp) : KP H H := fun _ _ e _ _ => e
theorem sqT_kp {K : PySem.W.Frag} {H H' : Hp} {a : Addr} {xs : List V} (h : SqT K H a xs) (s : KP H H') : SqT K H' a xs := by
  rcases h with (h | ⟨o, h⟩) | h
  · exact .inl (.inl (s _ _ h rfl rfl))
  · exact .inl (.inr ⟨o, s _ _ h rfl rfl⟩)
  · exact .inr h
theorem sqL_kp {K : PySem.W.Frag} {H H' : Hp} {a : Addr} {xs : List V} (h : SqL K H a xs) (s : KP H H') : SqL K H' a xs := by
  rcases h with (h | ⟨o, h⟩) | h
  · exact .inl (.inl (s _ _ h rfl rfl))
  · exact .inl (.inr ⟨o, s _ _ h rfl rfl⟩)
  · exact .inr h
mutual
theorem Dp.kp {K : PySem.W.Frag} {H H' : Hp} (e : KP H H') : ∀ (d : PyData) (v : V), Dp K H v d → Dp K H' v d
  | .none, _, h => by
    cases h
    exact .non
  | .bool b, _, h => by
    cases h
    exact .bl b
  | .int i, _, h => by
    cases h
    exact .int i
  | .str x, _, h => by
    cases h
    exact .str x
  | .list ds, _, h => by
    cases h with
    | lst hs ha => exact .lst (sqL_kp hs e) (DpAll.kp e ds _ ha)
  | .tuple ds, _, h => by
    cases h with
    | tup hs ha => exact .tup (sqT_kp hs e) (DpAll.kp e ds _ ha)
  | .dict kvs, _, h => by cases h
theorem DpAll.kp {K : PySem.W.Frag} {H H' : Hp} (e : KP H H') : ∀ (ds : List PyData) (vs : List V), DpAll K H vs ds → DpAll K H' vs ds
  | [], _, h => by
    cases h
    exact .nil
  | d :: ds, _, h => by
    cases h with
    | cons a b => exact .cons (Dp.kp e d _ a) (DpAll.kp e ds _ b)
end
theorem dp_kp {K : PySem.W.Frag} {H H' : Hp} {v : V} {d : PyData} (h : Dp K H v d) (e : KP H H') : Dp K H' v d := Dp.kp e d v h
theorem IntsAt.kp {K : PySem.W.Frag} {H H' : Hp} {a : Addr} {ns : List Int} (h : IntsAt K H a ns) (s : KP H H') : IntsAt K H' a ns := h.imp (fun z => sqL_kp z s) fun z => sqT_kp z s
theorem Rou.kp {K : PySem.W.Frag} {C : Addr} {H H' : Hp} {p : Addr} {F : Form} (h : Rou K C H p F) (s : KP H H') : Rou K C H' p F :=
  let ⟨dx, b, m, a, h1, h2, h3, h4⟩ := h.ex
  ⟨dx, b, m, a, s _ _ h1 rfl rfl, sqT_kp h2 s, sqT_kp h3 s, sqT_kp h4 s⟩
theorem RF.kp {K : PySem.W.Frag} {C : Addr} {H H' : Hp} {p : Addr} {F : Form} (h : RF K C H p F) (s : KP H H') : RF K C H' p F := ⟨h.1.kp s, h.2⟩
theorem tabs_nd {T : List (Addr × Str)} {H H' : Hp} (t : LamX.Tabs T H) (s : ND H H') : LamX.Tabs T H' := fun p hp => by
  obtain ⟨ps, h1, h2, h3⟩ := t p hp
  exact ⟨ps, s _ _ h1 rfl, h2, fun pos cv hc => by
    obtain ⟨c, e1, e2⟩ := h3 pos cv hc
    exact ⟨c, e1, s _ _ e2 rfl⟩⟩
theorem extN_nt {H H' : Hp} (h : LamX.ExtN H H') : NT H H' := fun b o e hn => h b o e fun ps z => by
  rw [z] at hn
  cases hn

/-! ### the pen -/
def penK (c : Addr) (at_ dg ct fo : Int) : List (Key × V) := [(.inr "cells", .ref c), (.inr "at", .int at_), (.inr "digits", .int dg), (.inr "count", .int ct), (.inr "fold", .int fo)]
/-- a pen stands at d, at most k draws were made with it -/
structure Pen (K : PySem.W.Frag) (H : Hp) (d : Addr) (k : Nat) : Prop where
  ex : ∃ (c : Addr) (ns : List Int) (at_ dg ct fo : Int), H d = some (.dK (penK c at_ dg ct fo)) ∧ SqL K H c (ns.map V.int) ∧ 0 ≤ at_ ∧ at_ ≤ ns.length ∧ 0 ≤ dg ∧ 0 ≤ ct ∧ ct ≤ k ∧ 0 ≤ fo ∧ fo < 2147483648
theorem Pen.nt {K : PySem.W.Frag} {H H' : Hp} {d : Addr} {k : Nat} (h : Pen K H d k) (s : NT H H') : Pen K H' d k :=
  let ⟨c, ns, at_, dg, ct, fo, h1, h2, r⟩ := h.ex
  ⟨c, ns, at_, dg, ct, fo, s _ _ h1 rfl, sqL_kp h2 (NT.kp s), r⟩
theorem Pen.same {K : PySem.W.Frag} {H H' : Hp} {d : Addr} {k : Nat} (h : Pen K H d k) (s : Same H H') : Pen K H' d k := h.nt (Same.nt s)
theorem Pen.le {K : PySem.W.Frag} {H : Hp} {d : Addr} {j k : Nat} (h : Pen K H d j) (hk : j ≤ k) : Pen K H d k :=
  let ⟨c, ns, at_, dg, ct, fo, h1, h2, h3, h4, h5, h6, h7, r⟩ := h.ex
  ⟨c, ns, at_, dg, ct, fo, h1, h2, h3, h4, h5, h6, by omega, r⟩
theorem pk_cells (c : Addr) (a g k f : Int) : valV (penK c a g k f) (.inr "cells" : Key) = some (.ref c) := by rfl
theorem pk_at (c : Addr) (a g k f : Int) : valV (penK c a g k f) (.inr "at" : Key) = some (.int a) := by rfl
theorem pk_digits (c : Addr) (a g k f : Int) : valV (penK c a g k f) (.inr "digits" : Key) = some (.int g) := by rfl
theorem pk_count (c : Addr) (a g k f : Int) : valV (penK c a g k f) (.inr "count" : Key) = some (.int k) := by rfl
theorem pk_fold (c : Addr) (a g k f : Int) : valV (penK c a g k f) (.inr "fold" : Key) = some (.int f) := by rfl
theorem gk_cells {H : Hp} {d c : Addr} {a g k f : Int} (h : H d = some (.dK (penK c a g k f))) : DGet H d (.str "cells") (some (.ref c)) := by
  rw [← pk_cells c a g k f]
  exact DGet.k (k := (.inr "cells" : Key)) h
theorem gk_at {H : Hp} {d c : Addr} {a g k f : Int} (h : H d = some (.dK (penK c a g k f))) : DGet H d (.str "at") (some (.int a)) := by
  rw [← pk_at c a g k f]
  exact DGet.k (k := (.inr "at" : Key)) h
theorem gk_digits {H : Hp} {d c : Addr} {a g k f : Int} (h : H d = some (.dK (penK c a g k f))) : DGet H d (.str "digits") (some (.int g)) := by
  rw [← pk_digits c a g k f]
  exact DGet.k (k := (.inr "digits" : Key)) h
theorem gk_count {H : Hp} {d c : Addr} {a g k f : Int} (h : H d = some (.dK (penK c a g k f))) : DGet H d (.str "count") (some (.int k)) := by
  rw [← pk_count c a g k f]
  exact DGet.k (k := (.inr "count" : Key)) h
theorem gk_fold {H : Hp} {d c : Addr} {a g k f : Int} (h : H d = some (.dK (penK c a g k f))) : DGet H d (.str "fold") (some (.int f)) := by
  rw [← pk_fold c a g k f]
  exact DGet.k (k := (.inr "fold" : Key)) h
theorem pp_at (c : Addr) (a g k f x : Int) : putK (penK c a g k f) (.inr "at" : Key) (.int x) = penK c x g k f := by rfl
theorem pp_digits (c : Addr) (a g k f x : Int) : putK (penK c a g k f) (.inr "digits" : Key) (.int x) = penK c a x k f := by rfl
theorem pp_count (c : Addr) (a g k f x : Int) : putK (penK c a g k f) (.inr "count" : Key) (.int x) = penK c a g x f := by rfl
theorem pp_fold (c : Addr) (a g k f x : Int) : putK (penK c a g k f) (.inr "fold" : Key) (.int x) = penK c a g k x := by rfl
theorem nd_upd {H : Hp} {d : Addr} {kvs kvs' : List (Key × V)} (h : H d = some (.dK kvs)) : ND H (upd H d (.dK kvs')) := fun b o e hn => by
  by_cases hb : b = d
  · subst hb
    rw [h] at e
    rw [← Option.some.inj e] at hn
    cases hn
  · rw [upd_ne hb]
    exact e
def spPen (K : PySem.W.Frag) : Sp := fun vs H Q _ => ∃ (a : Addr) (ns : List Int), vs = [.ref a] ∧ SqL K H a (ns.map V.int) ∧ ns.length ≤ 1000 ∧ ∀ (d : Addr) (H' : Hp), Same H H' → Pen K H' d 0 → Q (.ref d) H'
def spDraw (K : PySem.W.Frag) : Sp := fun vs H Q _ => ∃ (d : Addr) (many k : Nat), vs = [.ref d, .int many] ∧ 0 < many ∧ many ≤ 1000000 ∧ k ≤ 1000000 ∧ Pen K H d k ∧ ∀ (n : Nat) (H' : Hp), n < many → ND H H' → Pen K H' d (k + 1) → Q (.int n) H'
def spPick (K : PySem.W.Frag) : Sp := fun vs H Q _ => ∃ (d l : Addr) (xs : List V) (k : Nat), vs = [.ref d, .ref l] ∧ SqL K H l xs ∧ xs ≠ [] ∧ xs.length ≤ 1000000 ∧ k ≤ 1000000 ∧ Pen K H d k ∧ ∀ (j : Nat) (x : V) (H' : Hp), xs[j]? = some x → ND H H' → Pen K H' d (k + 1) → Q x H'
section
variable {P : Program} {w : World} {K : PySem.W.Frag} {mg : Str → Option Value} {base : Heap}
theorem ok_pen (h : Has K mg "_law_pen" s_law_pen) (T : Tx K mg) : Df P w K mg base 1 "_law_pen" ["_law_script"] (spPen K) := by
  refine h.df c_law_pen (fun _ _ _ _ _ _ us hl => match us, hl with | [_], _ => rfl) (fun vs H Q E ⟨_, _, e, _⟩ => by rw [e]; rfl) fun f cdv A outer s H vs Q E hr hs => ?_
  obtain ⟨a, ns, rfl, ha, hz, q⟩ := hs
  refine ⟨_, (pss_cons (ps_set (i := 1) c_law_pen.nd rfl (.inl rfl) pe_int)
    (pss_cons (ps_for (passes_of rfl) rfl (piL (K := K) rfl (pv 0)) (pg_name (i := 2) c_law_pen.nd rfl (.inl rfl)) (pss_one (ps_set (i := 1) c_law_pen.nd rfl (.inl rfl) (pe_op op_mod (pe_callTy call_int1 (by rfl) T.int boot_int (pa_cons (pe_op op_add (pe_op op_mul (pv 1) pe_int) (pv 2)) pa_nil)) pe_int))))
    (pss_one (ps_ret (pe_disp (pps_cons pe_str (pe_callTy call_list_of (by rfl) T.list boot_list (pa_cons (pv 0) pa_nil)) (pps_cons pe_str pe_int (pps_cons pe_str pe_int (pps_cons pe_str pe_int (pps_cons pe_str (pv 1) pps_nil))))) (by rfl) (by rfl) (fun z => by cases z) (by decide)))))), ?_⟩
  refine ⟨_, rfl, a, rfl, ⟨_, ha⟩, for_list (K := K) (a := a) (xs := ns.map V.int) (fun i σ H' => H' = H ∧ ∃ (fo : Int) (z : Option V), σ = [some (.ref a), some (.int fo), z] ∧ 0 ≤ fo ∧ fo < 1000000007) ⟨rfl, 0, _, rfl, by omega, by omega⟩ (fun i σ H' _ hp => by rw [hp.1]; exact ha) ?_ ?_⟩
  · rintro i x σ H' hx ⟨rfl, fo, z, rfl, f0, f1⟩
    rw [List.getElem?_map] at hx
    obtain ⟨n, _, rfl⟩ := Option.map_eq_some_iff.mp hx
    refine ⟨_, rfl, _, _, rfl, rfl, .inr (by omega), _, rfl, _, _, rfl, rfl, .inl ⟨_, rfl, _, _, rfl, rfl, (by show (0 : Int) < 1000000007; decide), rfl, _, _, rfl, ?_, ?_⟩⟩
    · exact Int.emod_nonneg _ (by decide)
    · exact Int.emod_lt_of_pos _ (by decide)
  · rintro σ H' ⟨rfl, fo, z, rfl, f0, f1⟩
    intro p np
    have s1 := same_upd (o := .dK []) np
    refine ⟨_, rfl, a, _, rfl, .inl (sqL_same ha s1), fun L nL => ⟨_, rfl, ?_⟩⟩
    have hpL : p ≠ L := ne_of_none upd_same nL
    refine ⟨by rw [upd_ne hpL, upd_same], penK L 0 0 0 fo, rfl, (by show 5 ≤ 15; decide), q p _ (fun b o e => ?_) ⟨L, ns, 0, 0, 0, fo, ?_, ?_, by omega, by omega, by omega, by omega, by omega, by omega, by omega⟩⟩
    · rw [upd_ne (ne_of_none e np), upd_ne (ne_of_none (s1 b o e) nL)]
      exact s1 b o e
    · rw [upd_same]
      rfl
    · exact sqL_at (by rw [upd_ne hpL.symm, upd_same])
theorem ok_draw (h : Has K mg "_law_draw" s_law_draw) (T : Tx K mg) : Df P w K mg base 1 "_law_draw" ["_law_pen_here", "_law_many"] (spDraw K) := by
  refine h.df c_law_draw (fun _ _ _ _ _ _ us hl => match us, hl with | [_, _], _ => rfl) (fun vs H Q E ⟨_, _, _, e, _⟩ => by rw [e]; rfl) fun f cdv A outer s H vs Q E hr hs => ?_
  obtain ⟨d, many, k, rfl, hm, hm2, hk, ⟨c, ns, at_, dg, ct, fo, hd, hc, a0, a1, g0, c0, c1, f0, f1⟩, q⟩ := hs
  refine ⟨_, (pss_cons (ps_dput (hu_of hr) (pv 0) pe_str (pe_op op_add (pe_dget (hu_of hr) (pv 0) pe_str (fun _ _ => rfl)) pe_int) rfl)
    (pss_cons (ps_if (PW.pt (pw_and (pt_cmpR op_eq (pe_dget (hu_of hr) (pv 0) pe_str (fun _ _ => rfl)) pe_int (nomark _)) (pw_and1 (pt_cmpR op_lt (pe_dget (hu_of hr) (pv 0) pe_str (fun _ _ => rfl)) (pe_callB (lenS (K := K) rfl) (by rfl) T.len boot_len (pa_cons (pe_dget (hu_of hr) (pv 0) pe_str (fun _ _ => rfl)) pa_nil)) (nomark _))))) (pss_cons (ps_set (i := 2) c_law_draw.nd rfl (.inl rfl) (pe_ix (ixL (K := K) rfl) (pe_dget (hu_of hr) (pv 0) pe_str (fun _ _ => rfl)) (pe_dget (hu_of hr) (pv 0) pe_str (fun _ _ => rfl)) (fun _ _ => rfl)))
      (pss_cons (ps_dput (hu_of hr) (pv 0) pe_str (pe_op op_add (pe_dget (hu_of hr) (pv 0) pe_str (fun _ _ => rfl)) pe_int) rfl)
      (pss_one (ps_if (pt_cmpR op_ge (pv 2) (pe_op op_pow pe_int pe_int) (nomark _)) (pss_one (ps_dput (hu_of hr) (pv 0) pe_str (pe_op op_sub (pv 2) (pe_op op_pow pe_int pe_int)) rfl)) (pss_one (ps_dput (hu_of hr) (pv 0) pe_str (pe_op op_mod (pe_callTy call_int1 (by rfl) T.int boot_int (pa_cons (pe_op op_add (pe_op op_mul (pe_dget (hu_of hr) (pv 0) pe_str (fun _ _ => rfl)) pe_int) (pv 2)) pa_nil)) pe_int) rfl)))))) pss_nil)
    (pss_cons (ps_if (pt_cmpR op_gt (pe_dget (hu_of hr) (pv 0) pe_str (fun _ _ => rfl)) pe_int (nomark _)) (pss_cons (ps_set (i := 3) c_law_draw.nd rfl (.inl rfl) (pe_op op_mod (pe_callTy call_int1 (by rfl) T.int boot_int (pa_cons (pe_dget (hu_of hr) (pv 0) pe_str (fun _ _ => rfl)) pa_nil)) (pv 1)))
      (pss_cons (ps_dput (hu_of hr) (pv 0) pe_str (pe_op op_fdiv (pe_dget (hu_of hr) (pv 0) pe_str (fun _ _ => rfl)) (pv 1)) rfl)
      (pss_one (ps_ret (pv 3))))) pss_nil)
    (pss_cons (ps_set (i := 4) c_law_draw.nd rfl (.inl rfl) (pe_op op_add (pe_op op_add (pe_dget (hu_of hr) (pv 0) pe_str (fun _ _ => rfl)) (pe_op op_mul (pe_dget (hu_of hr) (pv 0) pe_str (fun _ _ => rfl)) pe_int)) pe_int))
    (pss_one (ps_ret (pe_op op_mod (pe_op op_fdiv (pe_callTy call_int1 (by rfl) T.int boot_int (pa_cons (pe_op op_mod (pe_op op_pow (pv 4) pe_int) pe_int) pa_nil)) pe_int) (pv 1)))))))), ?_⟩
  -- count
  refine ⟨_, rfl, d, _, rfl, gk_count hd, _, _, rfl, rfl, _, rfl, d, _, rfl, DPut.k (k := .inr "count") hd (by show 5 < sizeLine; decide), ?_⟩
  rw [pp_count]
  have n1 := nd_upd (kvs' := penK c at_ dg (ct + 1) fo) hd
  generalize hH1 : upd H d (.dK (penK c at_ dg (ct + 1) fo)) = H1 at n1
  have hd1 : H1 d = some (.dK (penK c at_ dg (ct + 1) fo)) := by rw [← hH1, upd_same]
  -- behind the second statement: digits, fold anew
  have behind_ : ∀ (H2 : Hp) (at2 dg2 fo2 : Int) (z : Option V), ND H1 H2 → H2 d = some (.dK (penK c at2 dg2 (ct + 1) fo2)) → 0 ≤ at2 → at2 ≤ ns.length → 0 ≤ dg2 → 0 ≤ fo2 → fo2 < 2147483648 → _ := fun H2 at2 dg2 fo2 z n2 hd2 b0 b1 b2 b3 b4 =>
    show (tSeq (tIfS (tTest (tOp (rI0 fun i j => .bl (decide (j < i))) (tDGet (tVar 0) (L2.tC (.str "digits"))) (L2.tC (.int 0))))
      (tSeq (tAsg (tOp (rI (fun _ j => 0 < j) fun i j => .int (i % j)) (tCB (fun xs H Q => (∃ i, xs = [.int i] ∧ Q (.int i) H) ∨ ∃ k, xs = [.bl k] ∧ Q (.int (if k then 1 else 0)) H) (tCons (tDGet (tVar 0) (L2.tC (.str "digits"))) tNil)) (tVar 1)) (gName 3))
        (tSeq (sDPut (tVar 0) (L2.tC (.str "digits")) (tOp (rI CDiv fun i j => .int (i / j)) (tDGet (tVar 0) (L2.tC (.str "digits"))) (tVar 1))) (tRet (tVar 3)))) tNext)
      (tSeq (tAsg (tOp (rI0 fun i j => .int (i + j)) (tOp (rI0 fun i j => .int (i + j)) (tDGet (tVar 0) (L2.tC (.str "fold"))) (tOp (rI CMul fun i j => .int (i * j)) (tDGet (tVar 0) (L2.tC (.str "count"))) (L2.tC (.int 7919)))) (L2.tC (.int 41))) (gName 4))
        (tRet (tOp (rI (fun _ j => 0 < j) fun i j => .int (i % j)) (tOp (rI CDiv fun i j => .int (i / j)) (tCB (fun xs H Q => (∃ i, xs = [.int i] ∧ Q (.int i) H) ∨ ∃ k, xs = [.bl k] ∧ Q (.int (if k then 1 else 0)) H) (tCons (tOp (rI (fun _ j => 0 < j) fun i j => .int (i % j)) (tOp (rI CPow fun i j => .int (i ^ j.toNat)) (tVar 4) (L2.tC (.int 17))) (L2.tC (.int 2305843009213693951))) tNil)) (L2.tC (.int 128))) (tVar 1)))))
      { nx := fun _ H' => Q .non H', rt := Q } [some (.ref d), some (.int many), z, none, none] H2 by
      have n12 := n1.trans n2
      have hc2 := sqL_kp hc n12.kp
      refine ⟨_, rfl, d, _, rfl, gk_digits hd2, _, _, rfl, rfl, _, rfl, ?_⟩
      by_cases hg : 0 < dg2
      · refine iteBT (decide_eq_true hg) ?_
        refine ⟨_, rfl, d, _, rfl, gk_digits hd2, .inl ⟨_, rfl, _, rfl, _, _, rfl, rfl, (by omega : (0 : Int) < many), ?_⟩⟩
        refine ⟨_, rfl, d, _, rfl, gk_digits hd2, _, rfl, _, _, rfl, rfl, ⟨by omega, by omega⟩, _, rfl, d, _, rfl, DPut.k (k := .inr "digits") hd2 (by show 5 < sizeLine; decide), _, rfl, ?_⟩
        rw [pp_digits]
        have m0 := Int.emod_nonneg dg2 (show (many : Int) ≠ 0 by omega)
        have m1 := Int.emod_lt_of_pos dg2 (show (0 : Int) < many by omega)
        have e : dg2 % (many : Int) = (((dg2 % (many : Int)).toNat : Nat) : Int) := by omega
        have n3 := nd_upd (kvs' := penK c at2 (dg2 / many) (ct + 1) fo2) hd2
        show Q (.int (dg2 % (many : Int))) _
        rw [e]
        exact q _ _ (by omega) (n12.trans n3) ⟨c, ns, at2, dg2 / many, ct + 1, fo2, upd_same, sqL_kp hc2 n3.kp, b0, b1, Int.ediv_nonneg b2 (by omega), by omega, by omega, b3, b4⟩
      · refine iteBF (decide_eq_false hg) ?_
        refine ⟨_, rfl, d, _, rfl, gk_fold hd2, _, rfl, d, _, rfl, gk_count hd2, _, _, rfl, rfl, .inr (by omega), _, _, rfl, rfl, _, _, rfl, rfl, ?_⟩
        refine ⟨_, rfl, _, _, rfl, rfl, ⟨by omega, by omega, ?_⟩, _, _, rfl, rfl, (by show (0 : Int) < 2305843009213693951; decide), .inl ⟨_, rfl, _, _, rfl, rfl, ⟨by decide, by decide⟩, _, rfl, _, _, rfl, rfl, (by omega : (0 : Int) < many), ?_⟩⟩
        · show (fo2 + (ct + 1) * 7919 + 41).natAbs < 2 ^ 64
          have : (fo2 + (ct + 1) * 7919 + 41).natAbs ≤ 2147483648 + 1000001 * 7919 + 41 := by omega
          omega
        · show Q (.int (((fo2 + (ct + 1) * 7919 + 41) ^ (17 : Int).toNat % 2305843009213693951) / 128 % (many : Int))) _
          generalize ((fo2 + (ct + 1) * 7919 + 41) ^ (17 : Int).toNat % 2305843009213693951) / 128 = y
          have m0 := Int.emod_nonneg y (show (many : Int) ≠ 0 by omega)
          have m1 := Int.emod_lt_of_pos y (show (0 : Int) < many by omega)
          have e : y % (many : Int) = (((y % (many : Int)).toNat : Nat) : Int) := by omega
          rw [e]
          exact q _ _ (by omega) n12 ⟨c, ns, at2, dg2, ct + 1, fo2, hd2, hc2, b0, b1, b2, by omega, by omega, b3, b4⟩
  -- the first test
  refine ⟨_, rfl, d, _, rfl, gk_digits hd1, rfl, _, rfl, ?_⟩
  by_cases hg : dg = 0
  · subst hg
    refine iteBT rfl ?_
    refine ⟨_, rfl, d, _, rfl, gk_at hd1, _, rfl, d, _, rfl, gk_cells hd1, c, _, rfl, .inl (sqL_kp hc n1.kp), _, _, rfl, rfl, _, rfl, ?_⟩
    rw [List.length_map]
    by_cases ha : at_ < ns.length
    · refine iteBT (decide_eq_true ha) ?_
      obtain ⟨an, rfl⟩ : ∃ an : Nat, at_ = an := ⟨at_.toNat, by omega⟩
      have hal : an < ns.length := by omega
      refine ⟨_, rfl, d, _, rfl, gk_cells hd1, _, rfl, d, _, rfl, gk_at hd1, c, _, _, .int ns[an], rfl, rfl, sqL_kp hc n1.kp, atI_nat (by rw [List.getElem?_map, List.getElem?_eq_getElem hal]; rfl), ?_⟩
      refine ⟨_, rfl, d, _, rfl, gk_at hd1, _, _, rfl, rfl, _, rfl, d, _, rfl, DPut.k (k := .inr "at") hd1 (by show 5 < sizeLine; decide), ?_⟩
      rw [pp_at]
      have n2 := nd_upd (kvs' := penK c ((an : Int) + 1) 0 (ct + 1) fo) hd1
      generalize hH2 : upd H1 d (.dK (penK c ((an : Int) + 1) 0 (ct + 1) fo)) = H2 at n2
      have hd2 : H2 d = some (.dK (penK c ((an : Int) + 1) 0 (ct + 1) fo)) := by rw [← hH2, upd_same]
      refine ⟨_, rfl, _, _, rfl, rfl, ⟨by decide, by decide, by decide⟩, _, _, rfl, rfl, _, rfl, ?_⟩
      by_cases hb : (10 : Int) ^ (18 : Int).toNat ≤ ns[an]
      · refine iteBT (decide_eq_true hb) ?_
        refine ⟨_, rfl, _, _, rfl, rfl, ⟨by decide, by decide, by decide⟩, _, _, rfl, rfl, _, rfl, d, _, rfl, DPut.k (k := .inr "digits") hd2 (by show 5 < sizeLine; decide), ?_⟩
        rw [pp_digits]
        have n3 := nd_upd (kvs' := penK c ((an : Int) + 1) (ns[an] - (10 : Int) ^ (18 : Int).toNat) (ct + 1) fo) hd2
        exact behind_ _ ((an : Int) + 1) (ns[an] - (10 : Int) ^ (18 : Int).toNat) fo (some (.int ns[an])) (n2.trans n3) upd_same (by omega) (by omega) (by omega) f0 f1
      · refine iteBF (decide_eq_false hb) ?_
        refine ⟨_, rfl, d, _, rfl, gk_fold hd2, _, _, rfl, rfl, .inl (by omega), _, rfl, _, _, rfl, rfl, .inl ⟨_, rfl, _, _, rfl, rfl, (by show (0 : Int) < 2147483587; decide), _, rfl, d, _, rfl, DPut.k (k := .inr "fold") hd2 (by show 5 < sizeLine; decide), ?_⟩⟩
        rw [pp_fold]
        have n3 := nd_upd (kvs' := penK c ((an : Int) + 1) 0 (ct + 1) ((fo * 1664525 + ns[an]) % 2147483587)) hd2
        exact behind_ _ ((an : Int) + 1) 0 _ (some (.int ns[an])) (n2.trans n3) upd_same (by omega) (by omega) (by omega) (Int.emod_nonneg _ (by decide)) (Int.lt_trans (Int.emod_lt_of_pos _ (by decide)) (by decide))
    · refine iteBF (decide_eq_false ha) ?_
      exact behind_ H1 at_ 0 fo none (ND.refl H1) hd1 a0 a1 g0 f0 f1
  · refine iteBF (decide_eq_false fun z => hg (V.int.inj z)) (iteF ?_)
    exact behind_ H1 at_ dg fo none (ND.refl H1) hd1 a0 a1 g0 f0 f1
theorem ok_pick (h : Has K mg "_law_pick" s_law_pick) (T : Tx K mg) (DD : Df P w K mg base 1 "_law_draw" ["_law_pen_here", "_law_many"] (spDraw K)) : Df P w K mg base 2 "_law_pick" ["_law_pen_here", "_law_some"] (spPick K) := by
  refine h.df c_law_pick (fun _ _ _ _ _ _ us hl => match us, hl with | [_, _], _ => rfl) (fun vs H Q E ⟨_, _, _, _, e, _⟩ => by rw [e]; rfl) fun f cdv A outer s H vs Q E hr hs => ?_
  obtain ⟨d, l, xs, k, rfl, hl, hne, hz, hk, hp, q⟩ := hs
  refine ⟨_, (pss_one (ps_ret (pe_ix (ixL (K := K) rfl) (pv 1) (pe_df DD hr passL (by rfl) (pa_cons (pv 0) (pa_cons (pe_callB (lenS (K := K) rfl) (by rfl) T.len boot_len (pa_cons (pv 1) pa_nil)) pa_nil))) (fun _ _ => rfl)))), ?_⟩
  refine ⟨_, rfl, _, rfl, _, rfl, l, _, rfl, .inl hl, d, xs.length, k, rfl, List.length_pos_iff.mpr hne, hz, hk, hp, fun n H1 hn n1 hp1 => ?_⟩
  exact ⟨l, _, _, _, rfl, rfl, sqL_kp hl n1.kp, atI_nat (List.getElem?_eq_getElem hn), q n _ H1 (List.getElem?_eq_getElem hn) n1 hp1⟩
end
end Rk
set_option maxHeartbeats 4000000
/-! The law's defs, second part: numbers, odd values, its own reading of a form. -/
namespace Rk
open PySem PySem.Spec PyProof.Rows L2

def spFar (K : PySem.W.Frag) : Sp := fun vs H Q _ => ∃ (d : Addr) (k : Nat), vs = [.ref d] ∧ k ≤ 900000 ∧ Pen K H d k ∧ ∀ (n : Int) (H' : Hp), ND H H' → Pen K H' d (k + 16) → Q (.int n) H'
def spListedL (K : PySem.W.Frag) : Sp := fun vs H Q _ => ∃ (d l : Addr) (ns : List Int) (k : Nat), vs = [.ref d, .ref l] ∧ SqL K H l (ns.map V.int) ∧ k ≤ 900000 ∧ Pen K H d k ∧ ∀ (p : Addr) (H' : Hp), IntsAt K H' p ns → ND H H' → Pen K H' d (k + 1) → Q (.ref p) H'
def oddL : List PyData := [.none, .bool true, .bool false, .str "1", .tuple [.int 1], .list [.int 2], .str "", .tuple []]
def spOdd (K : PySem.W.Frag) : Sp := fun vs H Q _ => ∃ (d : Addr) (k : Nat), vs = [.ref d] ∧ k ≤ 900000 ∧ Pen K H d k ∧ ∀ (v : V) (e : PyData) (H' : Hp), e ∈ oddL → Dp K H' v e → ND H H' → Pen K H' d (k + 1) → Q v H'
def spNumber (K : PySem.W.Frag) : Sp := fun vs H Q _ => ∃ (d : Addr) (k : Nat), vs = [.ref d] ∧ k ≤ 800000 ∧ Pen K H d k ∧ ∀ (n : Int) (H' : Hp), ND H H' → Pen K H' d (k + 18) → Q (.int n) H'
def spTold (K : PySem.W.Frag) (C : Addr) : Sp := fun vs H Q _ => ∃ p F, vs = [.ref p] ∧ Rou K C H p F ∧ ∀ q H', Same H H' → FormAt K H' q F → Q (.ref q) H'
def spLEnd (K : PySem.W.Frag) : Sp := fun vs H Q _ => ∃ p F, vs = [.ref p] ∧ FormAt K H p F ∧ Q (.int (endF F)) H
def spHas (K : PySem.W.Frag) : Sp := fun vs H Q _ => ∃ (p : Addr) (F : Form) (n : Int), vs = [.ref p, .int n] ∧ FormAt K H p F ∧ F.2.1 ≠ [] ∧ F.2.2.2 ≠ [] ∧ Q (.bl (memF F n)) H
def spStep (K : PySem.W.Frag) : Sp := fun vs H Q _ => ∃ a r, vs = [.ref a] ∧ SqT K H a (bls r) ∧ r ≠ [] ∧ r.length ≤ 100000 ∧ ∀ H', Same H H' → Q (.int (lstep r : Nat)) H'
def spOddI (K : PySem.W.Frag) : Sp := fun vs H Q _ => ∃ a r, vs = [.ref a] ∧ SqT K H a (bls r) ∧ r.length ≤ 1000000 ∧ ∀ p H', Same H H' → H' p = some (.lst []) → Q (.ref p) H'
section
variable {P : Program} {w : World} {K : PySem.W.Frag} {mg : Str → Option Value} {base : Heap}
theorem ok_far (h : Has K mg "_law_far" s_law_far) (T : Tx K mg) (DD : Df P w K mg base 1 "_law_draw" ["_law_pen_here", "_law_many"] (spDraw K)) (DP : Df P w K mg base 2 "_law_pick" ["_law_pen_here", "_law_some"] (spPick K)) : Df P w K mg base 3 "_law_far" ["_law_pen_here"] (spFar K) := by
  refine h.df c_law_far (fun _ _ _ _ _ _ us hl => match us, hl with | [_], _ => rfl) (fun vs H Q E ⟨_, _, e, _⟩ => by rw [e]; rfl) fun f cdv A outer s H vs Q E hr hs => ?_
  obtain ⟨d, k, rfl, hk, hp, q⟩ := hs
  refine ⟨_, (pss_cons (ps_par3 rfl c_law_far.nd (i := 1) (j := 2) (l := 3) rfl rfl rfl (by decide) (by decide) (by decide) rfl rfl rfl (pa_cons (pe_op op_sub pe_int (pe_op op_mul pe_int (pe_df DD (hr.mono (by decide)) passL (by rfl) (pa_cons (pv 0) (pa_cons pe_int pa_nil))))) (pa_cons (pe_df DP hr passL (by rfl) (pa_cons (pv 0) (pa_cons (pe_lst (pa_cons pe_int (pa_cons pe_int (pa_cons pe_int (pa_cons pe_int (pa_cons pe_int pa_nil)))))) pa_nil))) (pa_cons (pe_df DD (hr.mono (by decide)) passL (by rfl) (pa_cons (pv 0) (pa_cons pe_int pa_nil))) pa_nil))) (by rfl))
    (pss_cons (ps_for (passes_of rfl) rfl (pi_rg1 (by rfl) T.range (pa_cons (pv 2) pa_nil)) (pg_name (i := 4) c_law_far.nd rfl (.inl rfl)) (pss_one (ps_set (i := 3) c_law_far.nd rfl (.inl rfl) (pe_op op_add (pe_op op_mul (pv 3) (pe_op op_pow pe_int pe_int)) (pe_df DD (hr.mono (by decide)) passL (by rfl) (pa_cons (pv 0) (pa_cons (pe_op op_pow pe_int pe_int) pa_nil)))))))
    (pss_one (ps_ret (pe_op op_mul (pv 1) (pv 3)))))), ?_⟩
  refine ⟨_, rfl, d, 2, k, rfl, by decide, by decide, by omega, hp, fun n1 H1 h1 d1 p1 => ⟨_, _, rfl, rfl, .inl ⟨by decide, by decide⟩, _, _, rfl, rfl, ?_⟩⟩
  refine ⟨_, rfl, (by show 5 ≤ sizeLine; decide), fun l nl => ?_⟩
  have s1 := same_upd (o := .lst [.int 0, .int 0, .int 1, .int 3, .int 9]) nl
  refine ⟨d, l, _, k + 1, rfl, sqL_new, (by simp), (by show 5 ≤ 1000000; decide), by omega, p1.same s1, fun j x H2 hj d2 p2 => ?_⟩
  obtain ⟨m, hm, rfl⟩ : ∃ m : Nat, m ≤ 9 ∧ x = .int m := by
    match j, hj with
    | 0, e => exact ⟨0, by decide, (Option.some.inj e).symm⟩
    | 1, e => exact ⟨0, by decide, (Option.some.inj e).symm⟩
    | 2, e => exact ⟨1, by decide, (Option.some.inj e).symm⟩
    | 3, e => exact ⟨3, by decide, (Option.some.inj e).symm⟩
    | 4, e => exact ⟨9, by decide, (Option.some.inj e).symm⟩
    | j + 5, e => simp at e
  refine ⟨_, rfl, d, 40, k + 2, rfl, by decide, by decide, by omega, p2, fun n3 H3 h3 d3 p3 => ⟨_, _, _, rfl, ?_⟩⟩
  have d03 := d1.trans ((Same.nd s1).trans (d2.trans d3))
  refine ⟨_, rfl, m, rfl, ?_⟩
  rw [Int.toNat_natCast]
  refine for_range (lo := 0) (n := m) (fun i σ H' => (∃ (far : Int) (z : Option V), σ = [some (.ref d), some (.int (1 - 2 * (n1 : Int))), some (.int m), some (.int far), z]) ∧ ND H H' ∧ Pen K H' d (k + 3 + i)) ⟨⟨_, _, rfl⟩, d03, p3⟩ ?_ ?_
  · rintro i σ H' hi ⟨⟨far, z, rfl⟩, d4, p4⟩
    refine ⟨_, rfl, _, _, rfl, rfl, ⟨by decide, by decide, by decide⟩, _, _, rfl, rfl, .inr (by show (-(2 ^ 64) < (10 : Int) ^ (6 : Int).toNat ∧ _); decide), ?_⟩
    refine ⟨_, rfl, _, _, rfl, rfl, ⟨by decide, by decide, by decide⟩, d, 1000000, k + 3 + i, rfl, by decide, by decide, by omega, p4, fun n5 H5 h5 d5 p5 => ⟨_, _, rfl, rfl, ⟨⟨_, _, rfl⟩, d4.trans d5, p5⟩⟩⟩
  · rintro σ H' ⟨⟨far, z, rfl⟩, d4, p4⟩
    exact ⟨_, rfl, _, rfl, _, _, rfl, rfl, .inl (by omega), q _ H' d4 (p4.le (by omega))⟩
theorem ok_listedL (h : Has K mg "_law_listed" s_law_listed) (T : Tx K mg) (DP : Df P w K mg base 2 "_law_pick" ["_law_pen_here", "_law_some"] (spPick K)) : Df P w K mg base 3 "_law_listed" ["_law_pen_here", "_law_row"] (spListedL K) := by
  refine h.df c_law_listed (fun _ _ _ _ _ _ us hl => match us, hl with | [_, _], _ => rfl) (fun vs H Q E ⟨_, _, _, _, e, _⟩ => by rw [e]; rfl) fun f cdv A outer s H vs Q E hr hs => ?_
  obtain ⟨d, l, ns, k, rfl, hl, hk, hp, q⟩ := hs
  refine ⟨_, (pss_one (ps_ret (pe_df DP hr passL (by rfl) (pa_cons (pv 0) (pa_cons (pe_lst (pa_cons (pe_callTy (tupS (K := K) rfl) (by rfl) T.tuple boot_tuple (pa_cons (pv 1) pa_nil)) (pa_cons (pe_callTy call_list_of (by rfl) T.list boot_list (pa_cons (pv 1) pa_nil)) pa_nil))) pa_nil))))), ?_⟩
  refine ⟨_, rfl, _, rfl, l, _, rfl, .inl hl, fun t H1 s1 ht => ⟨_, rfl, l, _, rfl, .inl (sqL_same hl s1), fun l2 n2 => ?_⟩⟩
  have s2 := same_upd (o := .lst (ns.map V.int)) n2
  refine ⟨(by show 2 ≤ sizeLine; decide), fun l3 n3 => ?_⟩
  have s3 := same_upd (o := .lst [.ref t, .ref l2]) n3
  refine ⟨d, l3, _, k, rfl, sqL_new, (by simp), (by show 2 ≤ 1000000; decide), by omega, ((hp.same s1).same s2).same s3, fun j x H4 hj d4 p4 => ?_⟩
  have d04 := (Same.nd (s1.trans (s2.trans s3))).trans d4
  match j, hj with
  | 0, e =>
    have ex : x = .ref t := (Option.some.inj e).symm
    subst ex
    exact q t H4 (.inr (sqT_kp (sqT_same ht (s2.trans s3)) d4.kp)) d04 p4
  | 1, e =>
    have ex : x = .ref l2 := (Option.some.inj e).symm
    subst ex
    exact q l2 H4 (.inl (sqL_kp (sqL_same sqL_new s3) d4.kp)) d04 p4
theorem ok_odd (h : Has K mg "_law_odd" s_law_odd) (DP : Df P w K mg base 2 "_law_pick" ["_law_pen_here", "_law_some"] (spPick K)) : Df P w K mg base 3 "_law_odd" ["_law_pen_here"] (spOdd K) := by
  refine h.df c_law_odd (fun _ _ _ _ _ _ us hl => match us, hl with | [_], _ => rfl) (fun vs H Q E ⟨_, _, e, _⟩ => by rw [e]; rfl) fun f cdv A outer s H vs Q E hr hs => ?_
  obtain ⟨d, k, rfl, hk, hp, q⟩ := hs
  refine ⟨_, (pss_one (ps_ret (pe_df DP hr passL (by rfl) (pa_cons (pv 0) (pa_cons (pe_lst (pa_cons pe_non (pa_cons pe_bl (pa_cons pe_bl (pa_cons pe_str (pa_cons (pe_tup (pa_cons pe_int pa_nil)) (pa_cons (pe_lst (pa_cons pe_int pa_nil)) (pa_cons pe_str (pa_cons (pe_tup pa_nil) pa_nil))))))))) pa_nil))))), ?_⟩
  refine ⟨_, rfl, (by show 1 ≤ sizeLine; decide), fun t1 n1 => ⟨(by show 1 ≤ sizeLine; decide), fun l2 n2 => ⟨(by show 0 ≤ sizeLine; decide), fun t3 n3 => ⟨(by show 8 ≤ sizeLine; decide), fun l4 n4 => ?_⟩⟩⟩⟩
  have s1 := same_upd (o := .tup [.int 1]) n1
  have s2 := same_upd (o := .lst [.int 2]) n2
  have s3 := same_upd (o := .tup []) n3
  have s4 := same_upd (o := .lst [.non, .bl true, .bl false, .str "1", .ref t1, .ref l2, .str "", .ref t3]) n4
  refine ⟨d, l4, _, k, rfl, sqL_new, (by simp), (by show 8 ≤ 1000000; decide), by omega, (((hp.same s1).same s2).same s3).same s4, fun j x H5 hj d5 p5 => ?_⟩
  have d05 := (Same.nd (s1.trans (s2.trans (s3.trans s4)))).trans d5
  have k5 := d5.kp
  match j, hj with
  | 0, e => cases e; exact q _ .none H5 (by simp [oddL]) .non d05 p5
  | 1, e => cases e; exact q _ (.bool true) H5 (by simp [oddL]) (.bl true) d05 p5
  | 2, e => cases e; exact q _ (.bool false) H5 (by simp [oddL]) (.bl false) d05 p5
  | 3, e => cases e; exact q _ (.str "1") H5 (by simp [oddL]) (.str "1") d05 p5
  | 4, e => cases e; exact q _ (.tuple [.int 1]) H5 (by simp [oddL]) (.tup (sqT_kp (sqT_same (sqT_same (sqT_same sqT_new s2) s3) s4) k5) (.cons (.int 1) .nil)) d05 p5
  | 5, e => cases e; exact q _ (.list [.int 2]) H5 (by simp [oddL]) (.lst (sqL_kp (sqL_same (sqL_same sqL_new s3) s4) k5) (.cons (.int 2) .nil)) d05 p5
  | 6, e => cases e; exact q _ (.str "") H5 (by simp [oddL]) (.str "") d05 p5
  | 7, e => cases e; exact q _ (.tuple []) H5 (by simp [oddL]) (.tup (sqT_kp (sqT_same sqT_new s4) k5) .nil) d05 p5
theorem ok_number (h : Has K mg "_law_number" s_law_number) (DD : Df P w K mg base 1 "_law_draw" ["_law_pen_here", "_law_many"] (spDraw K)) (DP : Df P w K mg base 2 "_law_pick" ["_law_pen_here", "_law_some"] (spPick K)) (DF : Df P w K mg base 3 "_law_far" ["_law_pen_here"] (spFar K)) :
    Df P w K mg base 4 "_law_number" ["_law_pen_here"] (spNumber K) := by
  refine h.df c_law_number (fun _ _ _ _ _ _ us hl => match us, hl with | [_], _ => rfl) (fun vs H Q E ⟨_, _, e, _⟩ => by rw [e]; rfl) fun f cdv A outer s H vs Q E hr hs => ?_
  obtain ⟨d, k, rfl, hk, hp, q⟩ := hs
  refine ⟨_, (pss_one (ps_ret (pe_df DP (hr.mono (by decide)) passL (by rfl) (pa_cons (pv 0) (pa_cons (pe_lst (pa_cons pe_int (pa_cons (pe_op op_sub (pe_df DD (hr.mono (by decide)) passL (by rfl) (pa_cons (pv 0) (pa_cons pe_int pa_nil))) pe_int) (pa_cons (pe_df DF hr passL (by rfl) (pa_cons (pv 0) pa_nil)) pa_nil)))) pa_nil))))), ?_⟩
  refine ⟨_, rfl, _, rfl, d, 61, k, rfl, by decide, by decide, by omega, hp, fun n1 H1 h1 d1 p1 => ⟨_, _, rfl, rfl, _, rfl, d, k + 1, rfl, by omega, p1, fun n2 H2 d2 p2 => ?_⟩⟩
  refine ⟨(by show 3 ≤ sizeLine; decide), fun l nl => ?_⟩
  have s3 := same_upd (o := .lst [.int 0, .int ((n1 : Int) - 30), .int n2]) nl
  refine ⟨d, l, _, k + 17, rfl, sqL_new, (by simp), (by show 3 ≤ 1000000; decide), by omega, p2.same s3, fun j x H4 hj d4 p4 => ?_⟩
  have d04 := d1.trans (d2.trans ((Same.nd s3).trans d4))
  match j, hj with
  | 0, e => cases e; exact q _ H4 d04 p4
  | 1, e => cases e; exact q _ H4 d04 p4
  | 2, e => cases e; exact q _ H4 d04 p4
theorem ok_is_intL (h : Has K mg "_law_is_int" s_law_is_int) (T : Tx K mg) : Df P w K mg base 1 "_law_is_int" ["_law_value"] (spIsInt K) := by
  refine h.df c_law_is_int (fun _ _ _ _ _ _ us hl => match us, hl with | [_], _ => rfl) (fun vs H Q E ⟨v, d, e, _⟩ => by rw [e]; rfl) fun f cdv A outer s H vs Q E hr hs => ?_
  obtain ⟨v, d, rfl, hd, q⟩ := hs
  refine ⟨_, pss_one (ps_ret (pe_and (pe_callB call_isi (by rfl) T.isinstance boot_isinstance (pa_cons (pv 0) (pa_cons (pe_bltn (v := .ty "int") (by rfl) T.int boot_int rfl) pa_nil)))
    (pe_one (pe_not (pe_callB call_isi (by rfl) T.isinstance boot_isinstance (pa_cons (pv 0) (pa_cons (pe_bltn (v := .ty "bool") (by rfl) T.bool boot_bool rfl) pa_nil))))))), ?_⟩
  refine ⟨_, rfl, v, _, _, _, _, rfl, .ty "int", tyx_of hd, kit_int d, _, rfl, ?_⟩
  by_cases hi : intK d = true
  · rw [hi]
    refine iteT ⟨_, rfl, v, _, _, _, _, rfl, .ty "bool", tyx_of hd, kit_bool d, _, rfl, ?_⟩
    cases d <;> first | exact q | cases hi
  · rw [Bool.eq_false_iff.mpr hi]
    refine iteF ?_
    cases d <;> first | exact q | exact absurd rfl hi
theorem ok_told {C : Addr} (h : Has K mg "_law_told" s_law_told) (R : RC K mg C) : Df P w K mg base 1 "_law_told" ["_law_one"] (spTold K C) := by
  refine h.df c_law_told (fun _ _ _ _ _ _ us hl => match us, hl with | [_], _ => rfl) (fun vs H Q E ⟨_, _, e, _⟩ => by rw [e]; rfl) fun f cdv A outer s H vs Q E hr hs => ?_
  obtain ⟨p, F, rfl, ⟨dx, b, m, a, h1, h2, h3, h4⟩, q⟩ := hs
  refine ⟨_, (pss_one (ps_ret (pe_tup (pa_cons (fldS (K := K) rfl (pv 0)) (pa_cons (fldS (K := K) rfl (pv 0)) (pa_cons (fldS (K := K) rfl (pv 0)) (pa_cons (fldS (K := K) rfl (pv 0)) pa_nil))))))), ?_⟩
  refine ⟨_, rfl, p, C, dx, _, _, rfl, h1, R.cl, R.no _ (by simp), fld_start _ _ _ _, _, rfl, p, C, dx, _, _, rfl, h1, R.cl, R.no _ (by simp), fld_below _ _ _ _, _, rfl, p, C, dx, _, _, rfl, h1, R.cl, R.no _ (by simp), fld_middle _ _ _ _, _, rfl, p, C, dx, _, _, rfl, h1, R.cl, R.no _ (by simp), fld_above _ _ _ _, (by show 4 ≤ sizeLine; decide), fun t nt => ?_⟩
  have s1 := same_upd (o := .tup [.int F.1, .ref b, .ref m, .ref a]) nt
  exact q t _ s1 ⟨b, m, a, sqT_new, sqT_same h2 s1, sqT_same h3 s1, sqT_same h4 s1⟩
theorem ok_lend (h : Has K mg "_law_end" s_law_end) (T : Tx K mg) : Df P w K mg base 1 "_law_end" ["_law_told_here"] (spLEnd K) := by
  refine h.df c_law_end (fun _ _ _ _ _ _ us hl => match us, hl with | [_], _ => rfl) (fun vs H Q E ⟨_, _, e, _⟩ => by rw [e]; rfl) fun f cdv A outer s H vs Q E hr hs => ?_
  obtain ⟨p, F, rfl, ⟨b, m, a, h1, h2, h3, h4⟩, q⟩ := hs
  refine ⟨_, (pss_one (ps_ret (pe_op op_add (pe_ix (ixT (K := K) rfl) (pv 0) pe_int (fun _ _ => rfl)) (pe_callB (lenS (K := K) rfl) (by rfl) T.len boot_len (pa_cons (pe_ix (ixT (K := K) rfl) (pv 0) pe_int (fun _ _ => rfl)) pa_nil))))), ?_⟩
  refine ⟨_, rfl, p, _, _, .int F.1, rfl, rfl, h1, rfl, _, rfl, p, _, _, .ref m, rfl, rfl, h1, rfl, m, _, rfl, .inr h3, _, _, rfl, rfl, ?_⟩
  have e : F.1 + ((bls F.2.2.1).length : Int) = endF F := by rw [bls_len]; rfl
  show Q (.int (F.1 + ((bls F.2.2.1).length : Int))) H
  rw [e]
  exact q
theorem ok_has (h : Has K mg "_law_has" s_law_has) (T : Tx K mg) : Df P w K mg base 1 "_law_has" ["_law_told_here", "_law_n"] (spHas K) := by
  refine h.df c_law_has (fun _ _ _ _ _ _ us hl => match us, hl with | [_, _], _ => rfl) (fun vs H Q E ⟨_, _, _, e, _⟩ => by rw [e]; rfl) fun f cdv A outer s H vs Q E hr hs => ?_
  obtain ⟨p, F, n, rfl, ⟨b, m, a, h1, h2, h3, h4⟩, nb, na, q⟩ := hs
  refine ⟨_, (pss_cons (ps_asg (pv 0) (pg_tup rfl (pgs_cons (pg_name (i := 2) c_law_has.nd rfl (.inl rfl)) (pgs_cons (pg_name (i := 3) c_law_has.nd rfl (.inl rfl)) (pgs_cons (pg_name (i := 4) c_law_has.nd rfl (.inl rfl)) (pgs_cons (pg_name (i := 5) c_law_has.nd rfl (.inl rfl)) pgs_nil))))))
    (pss_cons (ps_if (pt_cmpR op_lt (pv 1) (pv 2) (nomark _)) (pss_one (ps_ret (pe_ix (ixT (K := K) rfl) (pv 3) (pe_op op_mod (pe_callTy call_int1 (by rfl) T.int boot_int (pa_cons (pe_op op_sub (pv 1) (pv 2)) pa_nil)) (pe_callB (lenS (K := K) rfl) (by rfl) T.len boot_len (pa_cons (pv 3) pa_nil))) (fun _ _ => rfl)))) pss_nil)
    (pss_cons (ps_if (pt_cmpR op_lt (pv 1) (pe_op op_add (pv 2) (pe_callB (lenS (K := K) rfl) (by rfl) T.len boot_len (pa_cons (pv 4) pa_nil))) (nomark _)) (pss_one (ps_ret (pe_ix (ixT (K := K) rfl) (pv 4) (pe_op op_sub (pv 1) (pv 2)) (fun _ _ => rfl)))) pss_nil)
    (pss_one (ps_ret (pe_ix (ixT (K := K) rfl) (pv 5) (pe_op op_mod (pe_callTy call_int1 (by rfl) T.int boot_int (pa_cons (pe_op op_sub (pe_op op_sub (pv 1) (pv 2)) (pe_callB (lenS (K := K) rfl) (by rfl) T.len boot_len (pa_cons (pv 4) pa_nil))) pa_nil)) (pe_callB (lenS (K := K) rfl) (by rfl) T.len boot_len (pa_cons (pv 5) pa_nil))) (fun _ _ => rfl))))))), ?_⟩
  refine ⟨_, rfl, p, _, rfl, h1, rfl, _, _, rfl, _, _, rfl, _, _, rfl, _, _, rfl, rfl, ?_⟩
  unfold memF memB pieceB at q
  refine ⟨_, rfl, _, rfl, _, _, rfl, rfl, _, rfl, ?_⟩
  by_cases c1 : n < F.1
  · rw [if_pos (show n - F.1 < (F.2.2.1.length : Int) by omega), if_pos (show n - F.1 < 0 by omega)] at q
    refine iteBT (decide_eq_true c1) ?_
    refine ⟨_, rfl, _, rfl, _, rfl, _, _, rfl, rfl, .inl ⟨_, rfl, _, rfl, b, _, rfl, .inr h2, _, _, rfl, rfl, (by have z := len_pos nb; show (0 : Int) < _; rw [bls_len]; exact z), b, _, _, .bl (bAt F.2.1 (n - F.1)), rfl, rfl, h2, ?_, q⟩⟩
    show atI (bls F.2.1) ((n - F.1) % ((bls F.2.1).length : Int)) = _
    rw [bls_len]
    exact at_row nb _
  · refine iteBF (decide_eq_false c1) ?_
    refine ⟨_, rfl, _, rfl, _, rfl, m, _, rfl, .inr h3, _, _, rfl, rfl, _, _, rfl, rfl, _, rfl, ?_⟩
    have em : F.1 + ((bls F.2.2.1).length : Int) = F.1 + (F.2.2.1.length : Int) := by rw [bls_len]
    by_cases c2 : n < F.1 + (F.2.2.1.length : Int)
    · rw [if_pos (show n - F.1 < (F.2.2.1.length : Int) by omega), if_neg (show ¬ n - F.1 < 0 by omega)] at q
      refine iteBT (decide_eq_true (by rw [em]; exact c2)) ?_
      refine ⟨_, rfl, _, rfl, _, rfl, _, _, rfl, rfl, m, _, _, .bl (F.2.2.1.getD (n - F.1).toNat false), rfl, rfl, h3, ?_, q⟩
      show atI (bls F.2.2.1) (n - F.1) = _
      rw [show n - F.1 = (((n - F.1).toNat : Nat) : Int) by omega]
      refine atI_nat ?_
      rw [Int.toNat_natCast, bls_get, List.getD_eq_getElem?_getD, List.getElem?_eq_getElem (by omega)]
      rfl
    · rw [if_neg (show ¬ n - F.1 < (F.2.2.1.length : Int) by omega)] at q
      refine iteBF (decide_eq_false (by rw [em]; exact c2)) ?_
      refine ⟨_, rfl, _, rfl, _, rfl, _, _, rfl, rfl, _, rfl, m, _, rfl, .inr h3, _, _, rfl, rfl, .inl ⟨_, rfl, _, rfl, a, _, rfl, .inr h4, _, _, rfl, rfl, (by have z := len_pos na; show (0 : Int) < _; rw [bls_len]; exact z), a, _, _, .bl (bAt F.2.2.2 (n - F.1 - (F.2.2.1.length : Int))), rfl, rfl, h4, ?_, q⟩⟩
      show atI (bls F.2.2.2) ((n - F.1 - ((bls F.2.2.1).length : Int)) % ((bls F.2.2.2).length : Int)) = _
      rw [bls_len, bls_len]
      exact at_row na _
theorem ints_shaped (ns : List Int) : SeqAt.shaped (.list (ns.map PyData.int)) = true := by
  have h1 : ∀ ns : List Int, PyData.canLayAll0 (ns.map PyData.int) = true := fun ns => by
    induction ns with
    | nil => rfl
    | cons n ns ih =>
      show (PyData.canLay0 (.int n) && PyData.canLayAll0 (ns.map PyData.int)) = true
      rw [ih]
      rfl
  have h2 : ∀ ns : List Int, PyData.depthAll (ns.map PyData.int) = 0 := fun ns => by
    induction ns with
    | nil => rfl
    | cons n ns ih =>
      show max (PyData.depth (.int n)) (PyData.depthAll (ns.map PyData.int)) = 0
      rw [ih]
      rfl
  unfold SeqAt.shaped PyData.canLay0 PyData.depth
  rw [h1, h2]
  rfl
/-- a list of ints == [] -/
theorem eq_empty (ns : List Int) : PyData.eqv (.list (ns.map PyData.int)) (.list []) = decide (ns = []) := by
  cases ns with
  | nil => rfl
  | cons n ns => rfl
theorem ok_step (h : Has K mg "_law_step_of" s_law_step_of) (T : Tx K mg) : Df P w K mg base 1 "_law_step_of" ["_law_row"] (spStep K) := by
  refine h.df c_law_step_of (fun _ _ _ _ _ _ us hl => match us, hl with | [_], _ => rfl) (fun vs H Q E ⟨_, _, e, _⟩ => by rw [e]; rfl) fun f cdv A outer s H vs Q E hr hs => ?_
  obtain ⟨a, r, rfl, ha, hne, hz, q⟩ := hs
  refine ⟨_, (pss_cons (ps_for (passes_of rfl) rfl (pi_rg2 (by rfl) T.range (pa_cons pe_int (pa_cons (pe_op op_add (pe_callB (lenS (K := K) rfl) (by rfl) T.len boot_len (pa_cons (pv 0) pa_nil)) pe_int) pa_nil))) (pg_name (i := 1) c_law_step_of.nd rfl (.inr rfl)) (pss_one (ps_if (pt_cmpR (op_eqD hr.units) (pe_lc (own := [("_law_at", 2)]) (g := gName 2) rfl c_law_step_of.nd (pi_rg1 (by rfl) T.range (pa_cons (pe_callB (lenS (K := K) rfl) (by rfl) T.len boot_len (pa_cons (pv 0) pa_nil)) pa_nil)) (blkOk_by (N := n_law_step_of) (sc := defScope s_law_step_of) (by decide +kernel)) (fun _ _ _ _ _ => pg_name (i := 2) c_law_step_of.nd rfl (Or.inl rfl)) (fun _ _ _ _ _ => pts_one (pt_cmpR op_ne (pe_ix (ixT (K := K) rfl) (pv 0) (pv 2) (fun _ _ => rfl)) (pe_ix (ixT (K := K) rfl) (pv 0) (pe_op op_mod (pe_callTy call_int1 (by rfl) T.int boot_int (pa_cons (pe_op op_add (pv 2) (pv 1)) pa_nil)) (pe_callB (lenS (K := K) rfl) (by rfl) T.len boot_len (pa_cons (pv 0) pa_nil))) (fun _ _ => rfl)) (nomark _))) (fun _ _ _ _ _ => (pv 2))) (pe_lst pa_nil) (nomark _)) (pss_one (ps_ret (pv 1))) pss_nil)))
    (pss_one (ps_ret (pe_callB (lenS (K := K) rfl) (by rfl) T.len boot_len (pa_cons (pv 0) pa_nil))))), ?_⟩
  obtain ⟨l1, l2, _, _⟩ := lstep_ok hne
  have hlp := len_pos hne
  refine ⟨_, rfl, a, _, rfl, .inr ha, _, _, rfl, rfl, _, _, rfl, ?_⟩
  have en : (((bls r).length : Int) + 1 - 1).toNat = r.length := by rw [bls_len]; omega
  rw [en]
  refine for_range (lo := 1) (n := r.length) (fun i σ H' => (∃ z : Option V, σ = [some (.ref a), z, none]) ∧ Same H H' ∧ i < lstep r) ⟨⟨_, rfl⟩, Same.refl H, by omega⟩ ?_ ?_
  · rintro i σ H' hi ⟨⟨z, rfl⟩, s1, hil⟩
    have ha1 := sqT_same ha s1
    refine ⟨_, rfl, a, _, rfl, .inr ha1, _, rfl, ?_⟩
    have en2 : ((bls r).length : Int).toNat = r.length := by rw [bls_len, Int.toNat_natCast]
    rw [en2]
    refine lcRF (i := 2) (fun j => !decide (bAt r j = bAt r ((j : Int) + (1 + (i : Int))))) (fun j => .int (0 + (j : Int))) (row_line hz) (fun j H2 Qb hj s2 qb => ?_) (fun j H2 Qy hj _ s2 qy => ⟨_, rfl, qy H2 (Same.refl H2)⟩) fun L0 H2 n2 s2 e2 => ?_
    · have ha2 := sqT_same ha1 s2
      refine ⟨_, rfl, _, rfl, a, _, _, .bl (bAt r j), rfl, rfl, ha2, ?_, ?_⟩
      · show atI (bls r) (0 + (j : Int)) = _
        rw [Int.zero_add]
        refine atI_nat ?_
        rw [bls_get, List.getElem?_eq_getElem hj, ← bAt_nat hj]
        rfl
      refine ⟨_, rfl, _, rfl, _, rfl, _, _, rfl, rfl, .inl ⟨_, rfl, _, rfl, a, _, rfl, .inr ha2, _, _, rfl, rfl, (by show (0 : Int) < _; rw [bls_len]; exact hlp), a, _, _, .bl (bAt r ((j : Int) + (1 + (i : Int)))), rfl, rfl, ha2, ?_, rfl, _, rfl, ?_⟩⟩
      · show atI (bls r) ((0 + (j : Int) + (1 + (i : Int))) % ((bls r).length : Int)) = _
        rw [Int.zero_add, bls_len]
        exact at_row hne _
      · have e : (!decide (V.bl (bAt r j) = V.bl (bAt r ((j : Int) + (1 + (i : Int)))))) = (!decide (bAt r j = bAt r ((j : Int) + (1 + (i : Int))))) := by
          congr 1
          simp
        rw [e]
        exact qb H2 (Same.refl H2)
    · refine ⟨(by show 0 ≤ sizeLine; decide), fun p3 n3 => ?_⟩
      have s3 := same_upd (o := .lst []) n3
      have e4 : H2 L0 = some (.lst ((((List.range r.length).filter fun (j : Nat) => !decide (bAt r j = bAt r ((j : Int) + (1 + (i : Int))))).map fun (j : Nat) => 0 + (j : Int)).map V.int)) := by
        rw [e2, List.map_map]
        rfl
      refine ⟨_, _, .lst (sqL_same (sqL_at e4) s3) (dpAll_ints _), .lst sqL_new .nil, ints_shaped _, by decide +kernel, _, rfl, ?_⟩
      rw [eq_empty]
      have hpr : ((((List.range r.length).filter fun (j : Nat) => !decide (bAt r j = bAt r ((j : Int) + (1 + (i : Int))))).map fun (j : Nat) => 0 + (j : Int)) = []) ↔ Pr r ((1 + i : Nat) : Int) := by
        rw [List.map_eq_nil_iff, List.filter_eq_nil_iff]
        constructor
        · intro hh x
          have hx := emod_lt hne x
          have z := hh (x % (r.length : Int)).toNat (List.mem_range.mpr hx)
          simp only [Bool.not_eq_true', decide_eq_false_iff_not, Classical.not_not] at z
          have h0 := Int.emod_nonneg x (Int.ne_of_gt hlp)
          have e1 : (((x % (r.length : Int)).toNat : Nat) : Int) = x % (r.length : Int) := by omega
          rw [e1, bAt_emod] at z
          rw [z]
          refine bAt_congr ?_
          rw [Int.emod_add_emod]
          congr 1
        · intro hh j hj
          simp only [Bool.not_eq_true', decide_eq_false_iff_not, Classical.not_not]
          have z := hh j
          rw [← z]
          congr 1
      by_cases hper : Pr r ((1 + i : Nat) : Int)
      · rw [decide_eq_true (hpr.mpr hper)]
        have hd := lstep_dvd hne hper
        have hle : lstep r ≤ 1 + i := Nat.le_of_dvd (by omega) hd
        refine iteT ⟨_, rfl, ?_⟩
        have e : (1 : Int) + (i : Int) = ((lstep r : Nat) : Int) := by omega
        show Q (.int (1 + (i : Int))) _
        rw [e]
        exact q _ (s1.trans (s2.trans s3))
      · rw [decide_eq_false fun zz => hper (hpr.mp zz)]
        refine iteF ⟨⟨_, rfl⟩, s1.trans (s2.trans s3), ?_⟩
        refine Nat.lt_of_le_of_ne hil fun zz => hper ?_
        have e : ((1 + i : Nat) : Int) = ((lstep r : Nat) : Int) := by omega
        rw [e]
        exact lstep_pr hne
  · rintro σ H' ⟨_, _, hh⟩
    omega
theorem ok_oddI (h : Has K mg "_law_odd_items" s_law_odd_items) : Df P w K mg base 1 "_law_odd_items" ["_law_row"] (spOddI K) := by
  refine h.df c_law_odd_items (fun _ _ _ _ _ _ us hl => match us, hl with | [_], _ => rfl) (fun vs H Q E ⟨_, _, e, _⟩ => by rw [e]; rfl) fun f cdv A outer s H vs Q E hr hs => ?_
  obtain ⟨a, r, rfl, ha, hz, q⟩ := hs
  refine ⟨_, (pss_one (ps_ret (pe_lc (own := [("_law_item", 1)]) (g := gName 1) rfl c_law_odd_items.nd (piT (K := K) rfl (pv 0)) (blkOk_by (N := n_law_odd_items) (sc := defScope s_law_odd_items) (by decide +kernel)) (fun _ _ _ _ _ => pg_name (i := 1) c_law_odd_items.nd rfl (Or.inl rfl)) (fun _ _ _ _ _ => pts_one (PW.pt (pw_and (pt_cmpR op_isnotB (pv 1) pe_bl (nomark _)) (pw_and1 (pt_cmpR op_isnotB (pv 1) pe_bl (nomark _)))))) (fun _ _ _ _ _ => (pv 1))))), ?_⟩
  refine ⟨_, rfl, a, rfl, ⟨_, ha⟩, ?_⟩
  refine lcTF (K := K) (i := 1) (fun _ => false) (fun x => x) (by rw [bls_len]; exact Nat.le_trans hz (by decide)) ha (fun j x H' Qb hx s1 qb => ?_) (fun j x H' Qy hx z => by cases z) fun L0 H1 n1 s1 e1 => ?_
  · rw [bls_get] at hx
    obtain ⟨b, _, e⟩ := Option.map_eq_some_iff.mp hx
    subst e
    refine ⟨_, rfl, b, true, rfl, rfl, _, rfl, ?_⟩
    cases b with
    | true => exact iteBF rfl (qb H' (Same.refl H'))
    | false => exact iteBT rfl ⟨_, rfl, false, false, rfl, rfl, _, rfl, qb H' (Same.refl H')⟩
  · rw [List.filter_eq_nil_iff.mpr fun _ _ => Bool.false_ne_true] at e1
    exact q L0 H1 s1 e1
end
end Rk
set_option maxHeartbeats 4000000
/-! The law's defs, third part: the law's form of a description. -/
namespace Rk
open PySem PySem.Spec PyProof.Rows L2

/-- the module's name x holds the def st, its code object at c -/
structure HasT (K : PySem.W.Frag) (mg : Str → Option Value) (x : Str) (st : Stmt) (c : Addr) : Prop where
  ex : ∃ (f : Addr) (fd : FuncData), FunD K x x (defArgs st) (defBody st) (defScope st) [] [] f fd ∧ mg x = some (.ref f) ∧ fd.code = .ref c
section
variable {P : Program} {w : World} {K : PySem.W.Frag} {mg : Str → Option Value} {base : Heap} {x : Str} {st : Stmt} {N ps : List Str} {k : Nat} {sp : Sp} {c : Addr}
theorem HasT.df (h : HasT K mg x st c) (S : FnScope N ps (defScope st)) (hb : BindsOk x x st ps) (len : LenOk ps sp)
    (body : ∀ (f : Addr) (A : Around) (outer : List Env) (s : Shared) (H : Hp) (vs : List V) (Q : VK) (E : XK), Room k (A.deeper (envOfC x (defScope st) s.heap.objs.size f (.ref c))) → sp vs H Q E →
      ∃ t, PSs (cxOf (L2.CX P w) P w K mg base N x (defScope st) f (.ref c) A outer s H E) (defBody st) t ∧ t { nx := fun _ H' => Q .non H', rt := Q } (L2.start N vs) H) : Df P w K mg base (k + 1) x ps sp := by
  obtain ⟨f, fd, F, hm, hc⟩ := h.ex
  obtain ⟨oc, od, dV, kV, doc, pm, an, cdv, ct, osl, rfl, lk, hcd, _, _⟩ := F.ex
  have ec : cdv = .ref c := hc
  subst ec
  exact ⟨f, _, fn_of lk hcd S len fun A outer s H vs Q E hr hsp => body f A outer s H vs Q E hr hsp, hm, F.kp, F.bindsN hb⟩
theorem HasT.dfG (h : HasT K mg x st c) (S : FnScope N ps (defScope st)) (hb : BindsOk x x st ps) (len : LenOk ps sp)
    (body : ∀ (f : Addr) (A : Around) (outer : List Env) (s : Shared) (H : Hp) (vs : List V) (Q : VK) (E : XK), Room k (A.deeper (envOfC x (defScope st) s.heap.objs.size f (.ref c))) → (A.deeper (envOfC x (defScope st) s.heap.objs.size f (.ref c))).guards = some [] → sp vs H Q E →
      ∃ t, PSs (cxOf (L2.CX P w) P w K mg base N x (defScope st) f (.ref c) A outer s H E) (defBody st) t ∧ t { nx := fun _ H' => Q .non H', rt := Q } (L2.start N vs) H) : DfG P w K mg base (k + 1) x ps sp := by
  obtain ⟨f, fd, F, hm, hc⟩ := h.ex
  obtain ⟨oc, od, dV, kV, doc, pm, an, cdv, ct, osl, rfl, lk, hcd, _, _⟩ := id F.ex
  have ec : cdv = .ref c := hc
  subst ec
  exact ⟨f, _, ⟨len, fun A outer s H args us vs Q E hr hg e0 hb r hsp => LamX.run_ofS lk hcd S hr e0 hb r (len _ _ _ _ hsp) fun hr' => body f A outer s H vs Q E hr' hg hsp⟩, hm, F.kp, F.bindsN hb⟩
theorem Has.dfG (h : Has K mg x st) (S : FnScope N ps (defScope st)) (hb : BindsOk x x st ps) (len : LenOk ps sp)
    (body : ∀ (f : Addr) (cdv : Value) (A : Around) (outer : List Env) (s : Shared) (H : Hp) (vs : List V) (Q : VK) (E : XK), Room k (A.deeper (envOfC x (defScope st) s.heap.objs.size f cdv)) → (A.deeper (envOfC x (defScope st) s.heap.objs.size f cdv)).guards = some [] → sp vs H Q E →
      ∃ t, PSs (cxOf (L2.CX P w) P w K mg base N x (defScope st) f cdv A outer s H E) (defBody st) t ∧ t { nx := fun _ H' => Q .non H', rt := Q } (L2.start N vs) H) : DfG P w K mg base (k + 1) x ps sp := by
  obtain ⟨f, fd, F, hm⟩ := h.ex
  exact ⟨f, fd, okG F S len fun cdv A outer s H vs Q E hr hg hsp => body f cdv A outer s H vs Q E hr hg hsp, hm, F.kp, F.bindsN hb⟩
end

/-! ### what is lent and taken back -/
theorem sqT_unl {K : PySem.W.Frag} {H : Hp} {L : Addr → Option Obj} {a : Addr} {xs : List V} (hl : Lies L H) (h : SqT K H a xs) : SqT K (unl L H) a xs := by
  rcases h with (h | ⟨o, h⟩) | h
  · exact .inl (.inl (by rw [unl_none (hl.away h fun _ _ y => by cases y)]; exact h))
  · refine .inl (.inr ⟨o, ?_⟩)
    cases q : L a with
    | none => rw [unl_none q]; exact h
    | some o' =>
      rw [hl a o' q] at h
      cases h
  · exact .inr h
theorem sqT_lend {K : PySem.W.Frag} {H : Hp} {L : Addr → Option Obj} {a : Addr} {xs : List V} (hn : ∀ a o, L a = some o → H a = none) (h : SqT K H a xs) : SqT K (lend L H) a xs := by
  have free : ∀ c v, H c = some v → L c = none := fun c v z => by
    cases q2 : L c with
    | none => rfl
    | some o => rw [hn c o q2] at z; cases z
  rcases h with (h | ⟨o, h⟩) | h
  · exact .inl (.inl (by rw [lend_none (free _ _ h)]; exact h))
  · exact .inl (.inr ⟨o, by rw [lend_none (free _ _ h)]; exact h⟩)
  · exact .inr h
/-- what stood ahead of the lending stands behind the taking back -/
theorem same_unl {H H' : Hp} {L : Addr → Option Obj} (hn : ∀ a o, L a = some o → H a = none) (s : Same (lend L H) H') : Same H (unl L H') := fun b o e => by
  have q : L b = none := by
    cases q2 : L b with
    | none => rfl
    | some o' => rw [hn b o' q2] at e; cases e
  rw [unl_none q]
  exact s b o (by rw [lend_none q]; exact e)
theorem at_lend {H : Hp} {L : Addr → Option Obj} (hn : ∀ a o, L a = some o → H a = none) {b : Addr} {o : HO} (e : H b = some o) : lend L H b = some o := by
  have q : L b = none := by
    cases q2 : L b with
    | none => rfl
    | some o' => rw [hn b o' q2] at e; cases e
  rw [lend_none q]
  exact e
theorem formAt_unl {K : PySem.W.Frag} {H : Hp} {L : Addr → Option Obj} {p : Addr} {F : Form} (hl : Lies L H) (h : FormAt K H p F) : FormAt K (unl L H) p F :=
  let ⟨b, m, a, h1, h2, h3, h4⟩ := h
  ⟨b, m, a, sqT_unl hl h1, sqT_unl hl h2, sqT_unl hl h3, sqT_unl hl h4⟩

/-! ### _law_described -/
/-- a row of what c says of n numbers from s on -/
def rowC (c : Int → Bool) (s : Int) (n : Nat) : Row := (List.range n).map fun (j : Nat) => c (s + j)
theorem rowC_length (c : Int → Bool) (s : Int) (n : Nat) : (rowC c s n).length = n := by simp [rowC]
theorem rowC_bls (c : Int → Bool) (s : Int) (n : Nat) : (List.range n).map (fun (j : Nat) => V.bl (c (s + j))) = bls (rowC c s n) := by
  unfold rowC bls
  rw [List.map_map]
  rfl
section
variable {P : Program} {w : World} {K : PySem.W.Frag} {mg : Str → Option Value} {base : Heap}
/-- what stands at f answers c of an int, from H on -/
structure Says (P : Program) (w : World) (K : PySem.W.Frag) (mg : Str → Option Value) (base : Heap) (k : Nat) (H : Hp) (f : Addr) (c : Int → Bool) : Prop where
  ex : ∃ sp : Sp, Th P w K mg base k f sp ∧ (∃ q params body scope cl cc, H f = some (LamO f q params body scope cl cc)) ∧
    ∀ (n : Int) (H' : Hp) (Qn : VK), Same H H' → (∀ H'', Same H' H'' → Qn (.bl (c n)) H'') → ∃ (Q' : VK) (E' : XK), sp [.int n] H' Q' E' ∧ (∀ v H'', Q' v H'' → Qn v H'') ∧ ∀ cls d H'', E' cls d H'' → False
def spDesc (P : Program) (w : World) (K : PySem.W.Frag) (mg : Str → Option Value) (base : Heap) (k : Nat) : Sp := fun vs H Q _ => ∃ (f : Addr) (s : Int) (lo : Nat) (e : Int) (hi : Nat) (c : Int → Bool), vs = [.ref f, .int s, .int lo, .int e, .int hi] ∧ Says P w K mg base k H f c ∧
  lo ≤ 100000 ∧ (e - s).toNat ≤ 100000 ∧ hi ≤ 100000 ∧ ∀ p H', Same H H' → FormAt K H' p (s, rowC c (s - lo) lo, rowC c s (e - s).toNat, rowC c e hi) → Q (.ref p) H'
theorem ok_desc (h : Has K mg "_law_described" s_law_described) (T : Tx K mg) : Df P w K mg base 3 "_law_described" ["_law_fun", "_law_start", "_law_low_step", "_law_end_here", "_law_high_step"] (spDesc P w K mg base 2) := by
  refine h.df c_law_described (fun _ _ _ _ _ _ us hl => match us, hl with | [_, _, _, _, _], _ => rfl) (fun vs H Q E ⟨_, _, _, _, _, _, e, _⟩ => by rw [e]; rfl) fun f cdv A outer s H vs Q E hr hs => ?_
  obtain ⟨fl, st, lo, e, hi, c, rfl, ⟨spF, hTh, ⟨q1, q2, q3, q4, q5, q6, hL⟩, hc⟩, z1, z2, z3, q⟩ := hs
  refine ⟨_, (pss_cons (ps_set (i := 5) c_law_described.nd rfl (.inl rfl) (pe_callTy (tupS (K := K) rfl) (by rfl) T.tuple boot_tuple (pa_cons (pe_lc (own := [("_law_n", 7)]) (g := gName 7) (tt := tYes) rfl c_law_described.nd (pi_rg2 (by rfl) T.range (pa_cons (pe_op op_sub (pv 1) (pv 2)) (pa_cons (pv 1) pa_nil))) (blkOk_by (N := n_law_described) (sc := defScope s_law_described) (by decide +kernel)) (fun _ _ _ _ _ => pg_name (i := 7) c_law_described.nd rfl (Or.inl rfl)) (fun _ _ _ _ _ => pts_nil) (fun _ _ _ _ _ => (pe_th1 (i := 0) hTh hr takes0 (by rfl) (Or.inr (Or.inl (by rfl))) (pa_cons (pv 7) pa_nil)))) pa_nil)))
    (pss_cons (ps_set (i := 6) c_law_described.nd rfl (.inl rfl) (pe_callTy (tupS (K := K) rfl) (by rfl) T.tuple boot_tuple (pa_cons (pe_lc (own := [("_law_n", 7)]) (g := gName 7) (tt := tYes) rfl c_law_described.nd (pi_rg2 (by rfl) T.range (pa_cons (pv 1) (pa_cons (pv 3) pa_nil))) (blkOk_by (N := n_law_described) (sc := defScope s_law_described) (by decide +kernel)) (fun _ _ _ _ _ => pg_name (i := 7) c_law_described.nd rfl (Or.inl rfl)) (fun _ _ _ _ _ => pts_nil) (fun _ _ _ _ _ => (pe_th1 (i := 0) hTh hr takes0 (by rfl) (Or.inr (Or.inl (by rfl))) (pa_cons (pv 7) pa_nil)))) pa_nil)))
    (pss_one (ps_ret (pe_tup (pa_cons (pv 1) (pa_cons (pv 5) (pa_cons (pv 6) (pa_cons (pe_callTy (tupS (K := K) rfl) (by rfl) T.tuple boot_tuple (pa_cons (pe_lc (own := [("_law_n", 7)]) (g := gName 7) (tt := tYes) rfl c_law_described.nd (pi_rg2 (by rfl) T.range (pa_cons (pv 3) (pa_cons (pe_op op_add (pv 3) (pv 4)) pa_nil))) (blkOk_by (N := n_law_described) (sc := defScope s_law_described) (by decide +kernel)) (fun _ _ _ _ _ => pg_name (i := 7) c_law_described.nd rfl (Or.inl rfl)) (fun _ _ _ _ _ => pts_nil) (fun _ _ _ _ _ => (pe_th1 (i := 0) hTh hr takes0 (by rfl) (Or.inr (Or.inl (by rfl))) (pa_cons (pv 7) pa_nil)))) pa_nil)) pa_nil))))))))), ?_⟩
  -- one comprehension over a range
  have comp : ∀ (σ : L2.St) (a0 : Int) (n : Nat) (H1 : Hp) (Qd : Addr → Hp → Prop), σ.length = 8 → σ[0]? = some (some (.ref fl)) → Same H H1 → n ≤ 100000 → (∀ D H', Same H1 H' → H' D = some (.lst (bls (rowC c a0 n))) → Qd D H') →
      ∀ D, H1 D = none → ∃ W : Nat → Nat → Hp → Prop, (∃ m, W 0 m (upd H1 D (.lst []))) ∧ ∀ k m H, W k m H →
        ((Itr a0 n).stop k H ∧ Qd D H) ∨ ((Itr a0 n).go k H ∧ ∃ Nx : Hp → Prop, (∀ H', Nx H' → ∃ m', m' < m ∧ W (k + 1) m' H') ∧ ∀ x H', (Itr a0 n).yld k H x H' → gName 7 x (wipe σ [7]) H' fun σ2 H2 => wipe σ2 [7] = wipe σ [7] ∧ tYes σ2 H2 fun b H3 =>
          if b = true then tTh1 0 fl spF (fun _ _ _ _ => False) (tCons (tVar 7) tNil) σ2 H3 fun y H4 => ∃ acc, H4 D = some (.lst acc) ∧ acc.length < sizeLine ∧ Nx (upd H4 D (.lst (acc ++ [y]))) else Nx H3) := by
    intro σ a0 n H1 Qd hl8 hs0 s1 hn qd
    refine lcR (i := 7) (fun j => .bl (c (a0 + j))) (row_line hn) (fun j H' Qy hj s2 qy => ?_) fun D H' n1 s2 e2 => ?_
    · have s02 := s1.trans s2
      obtain ⟨Q', E', h1, h2, h3⟩ := hc (a0 + j) H' Qy s02 qy
      refine ⟨⟨q1, q2, q3, q4, q5, q6, s02 _ _ hL⟩, ?_, _, ?_, Q', E', h1, h2, fun cls d H'' z => h3 cls d H'' z⟩
      · rw [List.getElem?_set_ne (by decide)]
        exact hs0
      · rw [List.getElem?_set_self (by omega)]
    · rw [rowC_bls] at e2
      exact qd D H' s2 e2
  have e1 : (st - (st - (lo : Int))).toNat = lo := by omega
  have e3 : (e + (hi : Int) - e).toNat = hi := by omega
  refine ⟨_, rfl, _, rfl, _, _, rfl, rfl, _, rfl, _, _, rfl, ?_⟩
  rw [e1]
  refine comp _ (st - lo) lo H _ rfl rfl (Same.refl H) z1 fun D1 H1 s1 l1 => ?_
  refine ⟨D1, _, rfl, .inl (sqL_at l1), fun p1 H2 s2 t1 => ?_⟩
  have s12 := s1.trans s2
  refine ⟨_, rfl, _, rfl, _, _, rfl, ?_⟩
  refine comp _ st (e - st).toNat H2 _ rfl rfl s12 z2 fun D2 H3 s3 l2 => ?_
  refine ⟨D2, _, rfl, .inl (sqL_at l2), fun p2 H4 s4 t2 => ?_⟩
  have s14 := s12.trans (s3.trans s4)
  refine ⟨_, rfl, _, rfl, _, rfl, _, rfl, _, rfl, _, rfl, _, _, rfl, rfl, _, _, rfl, ?_⟩
  rw [e3]
  refine comp _ e hi H4 _ rfl rfl s14 z3 fun D3 H5 s5 l3 => ?_
  refine ⟨D3, _, rfl, .inl (sqL_at l3), fun p3 H6 s6 t3 => ⟨(by show 4 ≤ sizeLine; decide), fun p4 n4 => ?_⟩⟩
  have s7 := same_upd (o := .tup [.int st, .ref p1, .ref p2, .ref p3]) n4
  exact q p4 _ (s14.trans (s5.trans (s6.trans s7))) ⟨p1, p2, p3, sqT_new, sqT_same t1 (s3.trans (s4.trans (s5.trans (s6.trans s7)))), sqT_same t2 (s5.trans (s6.trans s7)), sqT_same t3 s7⟩
end
end Rk
set_option maxHeartbeats 4000000
/-! The law's defs, fourth part: _law_form. -/
namespace Rk
open PySem PySem.Spec PyProof.Rows L2

theorem FormAt.kp {K : PySem.W.Frag} {H H' : Hp} {p : Addr} {F : Form} (h : FormAt K H p F) (s : KP H H') : FormAt K H' p F :=
  let ⟨b, m, a, h1, h2, h3, h4⟩ := h
  ⟨b, m, a, sqT_kp h1 s, sqT_kp h2 s, sqT_kp h3 s, sqT_kp h4 s⟩
/-- the name of the lambdas in the def x -/
abbrev lamQ (x : Str) (sc : Scope) : Str := (envOfC x sc 0 0 .none).qual ++ "<lambda>"
theorem lam_free {ps : List Str} {sc scope : Scope} (L : LamP ps sc scope) : ∀ y ∈ scope.names, y.2 = .free → Vis sc y.1 ∧ sc.names.lookup y.1 ≠ some .local := fun y hy e => by
  rcases L.free y hy e with z | z
  · exact ⟨.inr (.inl z), by rw [z]; intro q; cases q⟩
  · exact ⟨.inr (.inr z), by rw [z]; intro q; cases q⟩
/-- a lambda's table among those that are known -/
structure TabIn (base : Heap) (mg : Str → Option Value) (T : List (Addr × Str)) (x : Str) (sc : Scope) (c : Addr) : Prop where
  ex : ∃ Pt, LamX.TabB base mg c Pt ∧ (Pt, lamQ x sc) ∈ T ∧ ∀ p ∈ T, p.1 = Pt → p.2 = lamQ x sc

section
variable {X : Cx} {σ : L2.St} {L : Addr → Option Obj} {ps N' : List Str} {τ : L2.St}
/-- a lambda that stands at f, the cells lent: what it keeps -/
theorem lam_use {params : Arguments} {body : Expr} {scope : Scope} {f c : Addr} {k : Nat} {tb : XK → TE} {H9 : Hp} (e : H9 f = some (LamO f (X.env.qual ++ "<lambda>") params body scope (cloFrom X.env.cells scope.names []) c)) (c9 : H9 c = some (LamX.CodeO c (X.env.qual ++ "<lambda>")))
    (hno : ∀ a o, L a = some o → H9 a = none) (Lt : Lent X σ L) (Ls : LamP ps X.env.scope scope) (ndN : N'.Nodup) (pre : N'.take ps.length = ps) (tx : Takes2 X.N N' σ ps.length τ) (hlen : ps.length + τ.length = N'.length)
    (hbind : ∀ (q : Str) (cl : List (Str × Addr)) (pm cv ctv : Value) (us : List Value), us.length = ps.length → bindArgs (PySem.W.kla_fn "<lambda>" q params body scope cl pm cv ctv) ⟨us, []⟩ = pure (ps.zip us))
    (hbody : ∀ (A : Around) (outer : List Env) (s : Shared) (H : Hp) (E : XK), Room k (A.deeper (LamX.lamEnv X scope s.heap.objs.size f c)) → PE (lamCN X N' A outer s H E scope f c) body (tb E)) :
    ∃ sp : Sp, Th X.prog X.w X.K X.mg X.base (k + 1) f sp ∧ (∃ q params body scope cl cc, lend L H9 f = some (LamO f q params body scope cl cc)) ∧
      ∀ (vs : List V) (H' : Hp) (Q : VK) (E : XK), Same (lend L H9) H' → vs.length = ps.length → tb (fun cls d H'' => (∀ a o, L a = some o → H'' a = none) → E cls d (lend L H'')) (vs.map some ++ τ) (unl L H') (fun v H'' => (∀ a o, L a = some o → H'' a = none) → Q v (lend L H'')) → sp vs H' Q E :=
  ⟨_, th_lam Lt Ls ndN pre tx hlen hbind hbody, ⟨_, _, _, _, _, _, at_lend hno e⟩, fun vs H' Q E sn hl ht => ⟨hl, sn _ _ (at_lend hno e), sn _ _ (at_lend hno c9), lies_lend.same sn, ht⟩⟩
end
theorem iteT' {c : Bool} {a b : Prop} (e : c = true) (h : a) : if c = true then a else b := by rw [e]; exact iteT h
theorem iteF' {c : Bool} {a b : Prop} (e : c = false) (h : b) : if c = true then a else b := by rw [e]; exact iteF h
/-- a loop over range that may break: what is behind it is shown once, from R -/
theorem for_rangeB {lo : Int} {n : Nat} {g : TG} {tb : TS} {D : Ends} {σ : L2.St} {H : Hp} (R : L2.St → Hp → Prop) (Pv : Nat → L2.St → Hp → Prop) (h0 : Pv 0 σ H) (hn : ∀ σ H, R σ H → D.nx σ H)
    (hs : (∀ σ H, R σ H → D.nx σ H) → ∀ i σ H, i < n → Pv i σ H → g (.int (lo + i)) σ H fun σ2 H2 => tb { D with nx := Pv (i + 1), ct := Pv (i + 1), bk := D.nx } σ2 H2) (hd : ∀ σ H, Pv n σ H → R σ H) :
    ∃ W : Nat → Nat → L2.St → Hp → Prop, (∃ m, W 0 m σ H) ∧ ∀ i m σ H, W i m σ H →
      ((Itr lo n).stop i H ∧ D.nx σ H) ∨ ((Itr lo n).go i H ∧ ∃ N : L2.St → Hp → Prop, (∀ σ' H', N σ' H' → ∃ m', m' < m ∧ W (i + 1) m' σ' H') ∧ ∀ x H', (Itr lo n).yld i H x H' → g x σ H' fun σ2 H2 => tb { D with nx := N, ct := N, bk := D.nx } σ2 H2) :=
  for_range Pv h0 (hs hn) fun σ H p => hn σ H (hd σ H p)

/-! ### the truths of a form whose rows are single -/
theorem mem_below {s : Int} {b : Bool} {m : Row} {a : Bool} {n : Int} (h : n < s) : memF (s, [b], m, [a]) n = b := by
  unfold memF memB pieceB
  show (if n - s < (m.length : Int) then (if n - s < 0 then bAt [b] (n - s) else m.getD (n - s).toNat false) else bAt [a] (n - s - (m.length : Int))) = b
  rw [if_pos (by omega), if_pos (by omega), bAt_one]
theorem mem_mid {s : Int} {b : Bool} {m : Row} {a : Bool} {n : Int} (h1 : s ≤ n) (h2 : n < s + m.length) : memF (s, [b], m, [a]) n = m.getD (n - s).toNat false := by
  unfold memF memB pieceB
  show (if n - s < (m.length : Int) then (if n - s < 0 then bAt [b] (n - s) else m.getD (n - s).toNat false) else bAt [a] (n - s - (m.length : Int))) = _
  rw [if_pos (by omega), if_neg (by omega)]
theorem mem_above {s : Int} {b : Bool} {m : Row} {a : Bool} {n : Int} (h : s + m.length ≤ n) : memF (s, [b], m, [a]) n = a := by
  unfold memF memB pieceB
  show (if n - s < (m.length : Int) then (if n - s < 0 then bAt [b] (n - s) else m.getD (n - s).toNat false) else bAt [a] (n - s - (m.length : Int))) = a
  rw [if_neg (by omega), bAt_one]
theorem mem_word {w : Row} (n : Int) : memF (0, w, [], w) n = bAt w n := by
  unfold memF memB pieceB
  show (if n - 0 < (([] : Row).length : Int) then (if n - 0 < 0 then bAt w (n - 0) else ([] : Row).getD (n - 0).toNat false) else bAt w (n - 0 - (([] : Row).length : Int))) = bAt w n
  by_cases h : n < 0
  · rw [if_pos (by show n - 0 < 0; omega), if_pos (by omega), Int.sub_zero]
  · rw [if_neg (by show ¬ n - 0 < 0; omega)]
    congr 1
    show n - 0 - 0 = n
    omega
/-- the same from one place to the next, all the way: one truth throughout -/
theorem all_one {s : Int} {b : Bool} {m : Row} {a : Bool} : (∀ j : Nat, j < m.length + 2 → memF (s, [b], m, [a]) (s - 2 + j) = memF (s, [b], m, [a]) (s - 2 + j + 1)) ↔ (b = a ∧ ∀ j, j < m.length → m.getD j false = a) := by
  constructor
  · intro h
    have down : ∀ k : Nat, k ≤ m.length + 2 → memF (s, [b], m, [a]) (s + m.length - k) = a := fun k hk => by
      induction k with
      | zero => exact mem_above (by omega)
      | succ k ih =>
        have z := h (m.length + 2 - (k + 1)) (by omega)
        rw [show s - 2 + ((m.length + 2 - (k + 1) : Nat) : Int) + 1 = s + m.length - k by omega, ih (by omega)] at z
        exact (congrArg (memF (s, [b], m, [a])) (show s + (m.length : Int) - ((k + 1 : Nat) : Int) = s - 2 + ((m.length + 2 - (k + 1) : Nat) : Int) by omega)).trans z
    refine ⟨?_, fun j hj => ?_⟩
    · have z := down (m.length + 1) (by omega)
      rw [mem_below (by omega)] at z
      exact z
    · have z := down (m.length - j) (by omega)
      rw [mem_mid (by omega) (by omega)] at z
      rw [← z]
      congr 1
      omega
  · rintro ⟨rfl, h⟩
    have all_ : ∀ n : Int, memF (s, [b], m, [b]) n = b := fun n => by
      by_cases h1 : n < s
      · exact mem_below h1
      · by_cases h2 : n < s + m.length
        · rw [mem_mid (by omega) h2]
          exact h _ (by omega)
        · exact mem_above (by omega)
    intro j _
    rw [all_, all_]
theorem rowC_mid {s : Int} {b : Bool} {m : Row} {a : Bool} {l h : Nat} (hl : l ≤ m.length) (hh : h ≤ m.length - l) : rowC (memF (s, [b], m, [a])) (s + h) (m.length - l - h) = (m.take (m.length - l)).drop h := by
  refine List.ext_getElem? fun j => ?_
  unfold rowC
  rw [List.getElem?_map, List.getElem?_drop]
  by_cases hj : j < m.length - l - h
  · rw [List.getElem?_range hj, List.getElem?_take_of_lt (by omega), List.getElem?_eq_getElem (by omega)]
    show some (memF (s, [b], m, [a]) (s + (h : Int) + (j : Int))) = _
    rw [mem_mid (by omega) (by omega), show (s + (h : Int) + (j : Int) - s).toNat = h + j by omega, List.getD_eq_getElem?_getD, List.getElem?_eq_getElem (by omega)]
    rfl
  · rw [List.getElem?_eq_none (by simpa using hj), List.getElem?_eq_none (by rw [List.length_take]; omega)]
    rfl
theorem rowC_one (c : Int → Bool) (s : Int) : rowC c s 1 = [c s] := by
  unfold rowC
  show [c (s + ((0 : Nat) : Int))] = [c s]
  congr 2
  omega
theorem rowC_word {w : Row} (h : w ≠ []) : rowC (memF (0, w, [], w)) 0 w.length = w := by
  refine List.ext_getElem? fun j => ?_
  unfold rowC
  rw [List.getElem?_map]
  by_cases hj : j < w.length
  · rw [List.getElem?_range hj, List.getElem?_eq_getElem hj]
    show some (memF (0, w, [], w) (0 + (j : Int))) = _
    rw [mem_word, Int.zero_add, bAt_nat hj]
  · rw [List.getElem?_eq_none (by simpa using hj), List.getElem?_eq_none (by omega)]
    rfl

def spForm (K : PySem.W.Frag) (T : List (Addr × Str)) : Sp := fun vs H Q _ => ∃ t, vs = [.ref t] ∧ LamX.Tabs T H ∧
  ((∃ s b m a, FormAt K H t (s, [b], m, [a]) ∧ m.length ≤ 90000 ∧ ∀ G p H', SF s b m a G → NT H H' → LamX.Tabs T H' → FormAt K H' p G → Q (.ref p) H') ∨
   (∃ w, FormAt K H t (0, w, [], w) ∧ w ≠ [] ∧ lstep w = w.length ∧ w.length ≤ 1000 ∧ ∀ p H', NT H H' → LamX.Tabs T H' → FormAt K H' p (0, w, [], w) → Q (.ref p) H'))
abbrev farD (D : Form) : Int := D.1 - ((lstep D.2.2.2 : Nat) : Int) - (D.2.1.length : Int)
section
variable {P : Program} {w : World} {K : PySem.W.Frag} {mg : Str → Option Value} {base : Heap}
theorem ok_form {T : List (Addr × Str)} {c : Addr} (h : HasT K mg "_law_form" s_law_form c) (TI : TabIn base mg T "_law_form" (defScope s_law_form) c) (TX : Tx K mg) (DS : Df P w K mg base 1 "_law_step_of" ["_law_row"] (spStep K)) (DE : Df P w K mg base 1 "_law_end" ["_law_told_here"] (spLEnd K))
    (DH : Df P w K mg base 1 "_law_has" ["_law_told_here", "_law_n"] (spHas K)) (DD : Df P w K mg base 3 "_law_described" ["_law_fun", "_law_start", "_law_low_step", "_law_end_here", "_law_high_step"] (spDesc P w K mg base 2)) : Df P w K mg base 4 "_law_form" ["_law_told_here"] (spForm K T) := by
  obtain ⟨Pt, TB, hmT, huT⟩ := TI.ex
  refine h.df c_law_form (fun _ _ _ _ _ _ us hl => match us, hl with | [_], _ => rfl) (fun vs H Q E ⟨_, e, _⟩ => by rw [e]; rfl) fun f A outer s H vs Q E hr hs => ?_
  obtain ⟨t, rfl, hT, hs⟩ := hs
  have hr1 := hr.mono (show 1 ≤ 3 by decide)
  refine ⟨_, (pss_cons (ps_asg (pe_tup (pa_cons (pe_df DS hr1 passL (by rfl) (pa_cons (pe_ix (ixT (K := K) rfl) (pv 0) pe_int (fun _ _ => rfl)) pa_nil)) (pa_cons (pe_df DS hr1 passL (by rfl) (pa_cons (pe_ix (ixT (K := K) rfl) (pv 0) pe_int (fun _ _ => rfl)) pa_nil)) (pa_cons (pe_df DE hr1 passL (by rfl) (pa_cons (pv 0) pa_nil)) pa_nil)))) (pg_tup rfl (pgs_cons (pg_name (i := 1) c_law_form.nd rfl (.inr rfl)) (pgs_cons (pg_name (i := 2) c_law_form.nd rfl (.inl rfl)) (pgs_cons (pg_name (i := 3) c_law_form.nd rfl (.inl rfl)) pgs_nil)))))
    (pss_cons (ps_set (i := 4) c_law_form.nd rfl (.inl rfl) (pe_op op_sub (pe_op op_sub (pe_ix (ixT (K := K) rfl) (pv 0) pe_int (fun _ _ => rfl)) (pv 1)) (pe_callB (lenS (K := K) rfl) (by rfl) TX.len boot_len (pa_cons (pe_ix (ixT (K := K) rfl) (pv 0) pe_int (fun _ _ => rfl)) pa_nil))))
    (pss_cons (ps_if (pt_cmpR (op_eqD hr.units) (pe_lc (own := [("_law_n", 8)]) (g := gName 8) rfl c_law_form.nd (pi_rg2 (by rfl) TX.range (pa_cons (pv 4) (pa_cons (pv 3) pa_nil))) (blkOk_by (N := n_law_form) (sc := defScope s_law_form) (by decide +kernel)) (fun _ _ _ _ _ => pg_name (i := 8) c_law_form.nd rfl (Or.inl rfl)) (fun _ _ _ _ _ => pts_one (pt_cmpR op_ne (pe_df DH (Room.mono hr1 (Nat.le_refl _)) passL (by rfl) (pa_cons (pv 0) (pa_cons (pv 8) pa_nil))) (pe_df DH (Room.mono hr1 (Nat.le_refl _)) passL (by rfl) (pa_cons (pv 0) (pa_cons (pe_op op_add (pv 8) (pv 1)) pa_nil))) (nomark _))) (fun _ _ _ _ _ => (pv 8))) (pe_lst pa_nil) (nomark _)) (pss_cons (ps_set (i := 5) c_law_form.nd rfl (.inl rfl) (pe_callTy (tupS (K := K) rfl) (by rfl) TX.tuple boot_tuple (pa_cons (pe_lc (own := [("_law_n", 8)]) (g := gName 8) (tt := tYes) rfl c_law_form.nd (pi_rg1 (by rfl) TX.range (pa_cons (pv 1) pa_nil)) (blkOk_by (N := n_law_form) (sc := defScope s_law_form) (by decide +kernel)) (fun _ _ _ _ _ => pg_name (i := 8) c_law_form.nd rfl (Or.inl rfl)) (fun _ _ _ _ _ => pts_nil) (fun _ _ _ _ _ => (pe_df DH (Room.mono hr1 (Nat.le_refl _)) passL (by rfl) (pa_cons (pv 0) (pa_cons (pv 8) pa_nil))))) pa_nil)))
      (pss_one (ps_ret (pe_tup (pa_cons pe_int (pa_cons (pv 5) (pa_cons (pe_tup pa_nil) (pa_cons (pv 5) pa_nil)))))))) pss_nil)
    (pss_cons (ps_for (passes_of rfl) rfl (pi_rg1 (by rfl) TX.range (pa_cons (pe_op op_add (pe_op op_sub (pv 3) (pv 4)) pe_int) pa_nil)) (pg_name (i := 6) c_law_form.nd rfl (.inl rfl)) (pss_cons (ps_if (pt_cmpR op_ne (pe_df DH (Room.mono hr1 (Nat.le_refl _)) passL (by rfl) (pa_cons (pv 0) (pa_cons (pe_op op_sub (pv 3) pe_int) pa_nil))) (pe_df DH (Room.mono hr1 (Nat.le_refl _)) passL (by rfl) (pa_cons (pv 0) (pa_cons (pe_op op_add (pe_op op_sub (pv 3) pe_int) (pv 1)) pa_nil))) (nomark _)) (pss_one ps_break) pss_nil)
      (pss_one (ps_set (i := 3) c_law_form.nd rfl (.inl rfl) (pe_op op_sub (pv 3) pe_int)))))
    (pss_cons (ps_set (i := 7) c_law_form.nd rfl (.inl rfl) (pe_callB (call_min2 rfl) (by rfl) TX.min boot_min (pa_cons (pe_ix (ixT (K := K) rfl) (pv 0) pe_int (fun _ _ => rfl)) (pa_cons (pv 3) pa_nil))))
    (pss_cons (ps_for (passes_of rfl) rfl (pi_rg1 (by rfl) TX.range (pa_cons (pe_op op_sub (pv 3) (pv 7)) pa_nil)) (pg_name (i := 6) c_law_form.nd rfl (.inl rfl)) (pss_cons (ps_if (pt_cmpR op_ne (pe_df DH (Room.mono hr1 (Nat.le_refl _)) passL (by rfl) (pa_cons (pv 0) (pa_cons (pv 7) pa_nil))) (pe_df DH (Room.mono hr1 (Nat.le_refl _)) passL (by rfl) (pa_cons (pv 0) (pa_cons (pe_op op_sub (pv 7) (pv 2)) pa_nil))) (nomark _)) (pss_one ps_break) pss_nil)
      (pss_one (ps_set (i := 7) c_law_form.nd rfl (.inl rfl) (pe_op op_add (pv 7) pe_int)))))
    (pss_one (ps_ret (pe_lend DD hr (fun _ => rfl) (by rfl) (pa_cons (pe_lamN TB rfl hmT huT rfl (lam_free (ps := ["_law_n"]) (sc := defScope s_law_form) (lamP_by (by decide +kernel)))) (pa_cons (pv 7) (pa_cons (pv 2) (pa_cons (pv 3) (pa_cons (pv 1) pa_nil)))))))))))))), ?_⟩
  -- what is known of the description
  obtain ⟨D, hD, nb, na, zb, za, zm, ze⟩ : ∃ D : Form, FormAt K H t D ∧ D.2.1 ≠ [] ∧ D.2.2.2 ≠ [] ∧ D.2.1.length ≤ 1000 ∧ D.2.2.2.length ≤ 1000 ∧ D.2.2.1.length ≤ 90000 ∧
      ((∃ s b m a, D = (s, [b], m, [a]) ∧ ∀ G p H', SF s b m a G → NT H H' → LamX.Tabs T H' → FormAt K H' p G → Q (.ref p) H') ∨ (∃ w, D = (0, w, [], w) ∧ lstep w = w.length ∧ ∀ p H', NT H H' → LamX.Tabs T H' → FormAt K H' p (0, w, [], w) → Q (.ref p) H')) := by
    rcases hs with ⟨s0, b, m, a, h1, h2, h3⟩ | ⟨w0, h1, h2, h3, h4, h5⟩
    · exact ⟨_, h1, by simp, by simp, by show 1 ≤ 1000; decide, by show 1 ≤ 1000; decide, h2, .inl ⟨s0, b, m, a, rfl, h3⟩⟩
    · exact ⟨_, h1, h2, h2, h4, h4, by show 0 ≤ 90000; decide, .inr ⟨w0, rfl, h3, h5⟩⟩
  obtain ⟨ab, am, aa, e1, e2, e3, e4⟩ := id hD
  have la := lstep_ok na
  have lb := lstep_ok nb
  -- one question to the description
  have ask : ∀ (n : Int) (H' : Hp) (Qh : VK), Same H H' → Qh (.bl (memF D n)) H' → spHas K [.ref t, .int n] H' Qh E0 := fun n H' Qh s1 qh => ⟨t, D, n, rfl, hD.same s1, nb, na, qh⟩
  have neb : ∀ x y : Bool, (!decide (V.bl x = V.bl y)) = (!decide (x = y)) := fun x y => by congr 1; simp
  refine ⟨_, rfl, t, _, _, .ref aa, rfl, rfl, e1, rfl, aa, _, rfl, e4, na, Nat.le_trans za (by decide), fun H1 s1 => ?_⟩
  refine ⟨_, rfl, t, _, _, .ref ab, rfl, rfl, sqT_same e1 s1, rfl, ab, _, rfl, sqT_same e2 s1, nb, Nat.le_trans zb (by decide), fun H2 s2 => ?_⟩
  have s12 := s1.trans s2
  refine ⟨_, rfl, t, D, rfl, hD.same s12, (by show 3 ≤ sizeLine; decide), fun p3 n3 => ?_⟩
  have s3 := same_upd (o := .tup [.int (lstep D.2.2.2 : Nat), .int (lstep D.2.1 : Nat), .int (endF D)]) n3
  have s13 := s12.trans s3
  refine ⟨p3, _, rfl, sqT_new, rfl, _, _, rfl, _, _, rfl, _, _, rfl, rfl, ?_⟩
  generalize hH3 : upd H2 p3 (.tup [.int (lstep D.2.2.2 : Nat), .int (lstep D.2.1 : Nat), .int (endF D)]) = H3 at s13
  have hD3 := hD.same s13
  refine ⟨_, rfl, t, _, _, .int D.1, rfl, rfl, sqT_same e1 s13, rfl, _, rfl, _, _, rfl, rfl, _, rfl, t, _, _, .ref ab, rfl, rfl, sqT_same e1 s13, rfl, ab, _, rfl, .inr (sqT_same e2 s13), _, _, rfl, rfl, ?_⟩
  rw [bls_len]
  have hcount : (endF D - farD D).toNat = lstep D.2.2.2 + D.2.1.length + D.2.2.1.length := by
    unfold endF farD
    omega
  -- the comprehension
  refine ⟨_, rfl, _, rfl, _, _, rfl, ?_⟩
  refine lcRF (i := 8) (fun j => !decide (memF D (farD D + (j : Int)) = memF D (farD D + (j : Int) + ((lstep D.2.2.2 : Nat) : Int)))) (fun j => .int (farD D + (j : Int))) (row_line (by show (endF D - farD D).toNat ≤ _; rw [hcount]; omega)) (fun j H' Qb hj s4 qb => ?_) (fun j H' Qy hj _ s4 qy => ⟨_, rfl, qy H' (Same.refl H')⟩) fun L0 H4 n4 s4 l4 => ?_
  · have hD4 := hD.same (s13.trans s4)
    refine ⟨_, rfl, _, rfl, t, D, _, rfl, hD4, nb, na, _, rfl, _, rfl, _, rfl, _, _, rfl, rfl, t, D, _, rfl, hD4, nb, na, rfl, _, rfl, ?_⟩
    have z := qb H' (Same.refl H')
    rw [← neb] at z
    exact z
  have l5 : H4 L0 = some (.lst ((((List.range (endF D - farD D).toNat).filter fun (j : Nat) => !decide (memF D (farD D + (j : Int)) = memF D (farD D + (j : Int) + ((lstep D.2.2.2 : Nat) : Int)))).map fun (j : Nat) => farD D + (j : Int)).map V.int)) := by
    rw [l4, List.map_map]
    rfl
  have hall : ((((List.range (endF D - farD D).toNat).filter fun (j : Nat) => !decide (memF D (farD D + (j : Int)) = memF D (farD D + (j : Int) + ((lstep D.2.2.2 : Nat) : Int)))).map fun (j : Nat) => farD D + (j : Int)) = []) ↔
      ∀ j : Nat, j < lstep D.2.2.2 + D.2.1.length + D.2.2.1.length → memF D (farD D + (j : Int)) = memF D (farD D + (j : Int) + ((lstep D.2.2.2 : Nat) : Int)) := by
    rw [List.map_eq_nil_iff, List.filter_eq_nil_iff, hcount]
    constructor
    · intro hh j hj
      have z := hh j (List.mem_range.mpr hj)
      simpa using z
    · intro hh j hj
      have z := hh j (List.mem_range.mp hj)
      simpa using z
  have s14 := s13.trans s4
  refine ⟨(by show 0 ≤ sizeLine; decide), fun p5 n5 => ?_⟩
  have s5 := same_upd (o := .lst []) n5
  have s15 := s14.trans s5
  refine ⟨_, _, .lst (sqL_same (sqL_at l5) s5) (dpAll_ints _), .lst sqL_new .nil, ints_shaped _, by decide +kernel, _, rfl, ?_⟩
  rw [eq_empty]
  generalize upd H4 p5 (.lst []) = H5 at s15
  by_cases hA : ∀ j : Nat, j < lstep D.2.2.2 + D.2.1.length + D.2.2.1.length → memF D (farD D + (j : Int)) = memF D (farD D + (j : Int) + ((lstep D.2.2.2 : Nat) : Int))
  · -- one word throughout
    rw [decide_eq_true (hall.mpr hA)]
    refine iteT ?_
    refine ⟨_, rfl, _, rfl, ?_⟩
    rw [Int.toNat_natCast]
    refine lcR (i := 8) (fun j => .bl (memF D (0 + (j : Int)))) (row_line (by omega)) (fun j H' Qy hj s6 qy => ⟨_, rfl, _, rfl, ask _ H' _ (s15.trans s6) (qy H' (Same.refl H'))⟩) fun L1 H6 n6 s6 l6 => ?_
    rw [rowC_bls] at l6
    refine ⟨L1, _, rfl, .inl (sqL_at l6), fun w1 H7 s7 t7 => ⟨_, rfl, (by show 0 ≤ sizeLine; decide), fun p8 n8 => ?_⟩⟩
    have s8 := same_upd (o := .tup []) n8
    refine ⟨_, rfl, (by show 4 ≤ sizeLine; decide), fun p9 n9 => ?_⟩
    have s9 := same_upd (o := .tup [.int 0, .ref w1, .ref p8, .ref w1]) n9
    have sE := s15.trans (s6.trans (s7.trans (s8.trans s9)))
    have hF : FormAt K _ p9 (0, rowC (memF D) 0 (lstep D.2.2.2), [], rowC (memF D) 0 (lstep D.2.2.2)) := ⟨w1, p8, w1, sqT_new, sqT_same t7 (s8.trans s9), sqT_same sqT_new s9, sqT_same t7 (s8.trans s9)⟩
    rcases ze with ⟨s0, b, m, a, rfl, q⟩ | ⟨w0, rfl, hw, q⟩
    · have eS : lstep ([a] : Row) = 1 := lstep_one a
      have z := all_one.mp (show ∀ j : Nat, j < m.length + 2 → memF (s0, [b], m, [a]) (s0 - 2 + j) = memF (s0, [b], m, [a]) (s0 - 2 + j + 1) from fun j hj => by
        have y := hA j (by show j < lstep [a] + 1 + m.length; omega)
        unfold farD at y
        rw [show lstep (s0, [b], m, [a]).2.2.2 = 1 from eS] at y
        have e0 : (s0, [b], m, [a]).1 - ((1 : Nat) : Int) - (((s0, [b], m, [a]) : Form).2.1.length : Int) = s0 - 2 := by show s0 - 1 - 1 = s0 - 2; omega
        rw [e0] at y
        exact y)
      have eR : rowC (memF (s0, [b], m, [a])) 0 (lstep ([a] : Row)) = [a] := by
        rw [eS, rowC_one]
        congr 1
        by_cases h1 : (0 : Int) < s0
        · rw [mem_below h1, z.1]
        · by_cases h2 : (0 : Int) < s0 + m.length
          · rw [mem_mid (by omega) h2, z.2 _ (by omega)]
          · exact mem_above (by omega)
      refine q _ p9 _ (.inl ⟨z.1, z.2, rfl⟩) (Same.nt sE) (hT.ext sE) ?_
      rw [← eR]
      exact hF
    · have eR : rowC (memF (0, w0, [], w0)) 0 (lstep w0) = w0 := by rw [hw, rowC_word na]
      refine q p9 _ (Same.nt sE) (hT.ext sE) ?_
      have hF2 : FormAt K _ p9 (0, rowC (memF (0, w0, [], w0)) 0 (lstep w0), [], rowC (memF (0, w0, [], w0)) 0 (lstep w0)) := hF
      rw [eR] at hF2
      exact hF2
  · rw [decide_eq_false fun z => hA (hall.mp z)]
    refine iteF ?_
    rcases ze with ⟨s0, b, m, a, rfl, q⟩ | ⟨w0, rfl, hw, q⟩
    · have eS : ((lstep ([a] : Row) : Nat) : Int) = 1 := by rw [lstep_one]; rfl
      have eB : ((lstep ([b] : Row) : Nat) : Int) = 1 := by rw [lstep_one]; rfl
      have eE : endF (s0, [b], m, [a]) = s0 + m.length := rfl
      have eF : farD (s0, [b], m, [a]) = s0 - 2 := by
        show s0 - ((lstep ([a] : Row) : Nat) : Int) - ((1 : Nat) : Int) = s0 - 2
        omega
      obtain ⟨c, hc⟩ : ∃ c, c = memF (s0, [b], m, [a]) := ⟨_, rfl⟩
      have cb : ∀ n, n < s0 → c n = b := fun n hn => by rw [hc]; exact mem_below hn
      have ca : ∀ n, s0 + m.length ≤ n → c n = a := fun n hn => by rw [hc]; exact mem_above hn
      have q0 : ∀ (x y : Bool), (!decide (x = y)) = true ↔ x ≠ y := fun x y => by simp
      refine ⟨_, rfl, _, rfl, _, _, rfl, rfl, _, _, rfl, rfl, _, rfl, ?_⟩
      have en : (endF (s0, [b], m, [a]) - farD (s0, [b], m, [a]) + 1).toNat = m.length + 3 := by omega
      refine for_rangeB (R := fun σ H' => Same H5 H' ∧ ∃ (l : Nat) (fr : V) (z5 z6 z7 z8 : Option V), σ = [some (.ref t), some (.int (lstep ([a] : Row) : Nat)), some (.int (lstep ([b] : Row) : Nat)), some (.int (s0 + m.length - l)), some fr, z5, z6, z7, z8] ∧
          l ≤ m.length ∧ (∀ n, s0 + m.length - l ≤ n → c n = a) ∧ c (s0 + m.length - l - 1) ≠ a)
        (Pv := fun i σ H' => Same H5 H' ∧ ∃ (fr : V) (z5 z6 z7 z8 : Option V), σ = [some (.ref t), some (.int (lstep ([a] : Row) : Nat)), some (.int (lstep ([b] : Row) : Nat)), some (.int (s0 + m.length - i)), some fr, z5, z6, z7, z8] ∧ ∀ n, s0 + m.length - i ≤ n → c n = a)
        ⟨Same.refl H5, _, _, _, _, _, (by rw [show s0 + (m.length : Int) - ((0 : Nat) : Int) = endF (s0, [b], m, [a]) by omega]; rfl), fun n hn => ca n (by omega)⟩ ?_ ?_ ?_
      · rintro σ H6 ⟨s6, l, fr, z5, z6, z7, z8, rfl, hl, hla, hlb⟩
        refine ⟨_, rfl, t, _, _, .int s0, rfl, rfl, sqT_same e1 (s15.trans s6), rfl, _, rfl, _, _, rfl, ?_⟩
        rw [show (if s0 + (m.length : Int) - (l : Int) < s0 then s0 + (m.length : Int) - (l : Int) else s0) = s0 from if_neg (by omega)]
        refine ⟨_, rfl, _, rfl, _, _, rfl, rfl, _, rfl, ?_⟩
        have en2 : (s0 + (m.length : Int) - (l : Int) - s0).toNat = m.length - l := by omega
        rw [en2]
        refine for_rangeB (R := fun σ H' => Same H5 H' ∧ ∃ (h : Nat) (fr : V) (z5 z6 z8 : Option V), σ = [some (.ref t), some (.int (lstep ([a] : Row) : Nat)), some (.int (lstep ([b] : Row) : Nat)), some (.int (s0 + m.length - l)), some fr, z5, z6, some (.int (s0 + h)), z8] ∧
            h ≤ m.length - l ∧ (∀ n, n < s0 + h → c n = b) ∧ (h = m.length - l ∨ c (s0 + h) ≠ b))
          (Pv := fun i σ H' => Same H5 H' ∧ ∃ (fr : V) (z5 z6 z8 : Option V), σ = [some (.ref t), some (.int (lstep ([a] : Row) : Nat)), some (.int (lstep ([b] : Row) : Nat)), some (.int (s0 + m.length - l)), some fr, z5, z6, some (.int (s0 + i)), z8] ∧ ∀ n, n < s0 + i → c n = b)
          ⟨s6, _, _, _, _, (by rw [show s0 + ((0 : Nat) : Int) = s0 by omega]; rfl), fun n hn => cb n (by omega)⟩ ?_ ?_ ?_
        · rintro σ H7 ⟨s7, h, fr, z5, z6, z8, rfl, hh, hha, hhb⟩
          have sE := s15.trans s7
          refine ⟨hT.ext sE, fun lf lc H8 H9 x8 n8 e8 T9 c9 => ⟨_, rfl, _, rfl, _, rfl, _, rfl, fun L Lt hno => ?_⟩⟩
          have nt9 : NT H H9 := (Same.nt sE).trans ((extN_nt x8).trans (Same.nt (by rw [e8]; exact same_upd n8)))
          have hD9 : FormAt K H9 t (s0, [b], m, [a]) := hD.kp nt9.kp
          have lfA := (congrFun e8 lf).trans upd_same
          obtain ⟨sp, TH, hL, use⟩ := lam_use (k := 1) (ps := ["_law_n"]) (N' := ["_law_n", "_law_told_here"]) (τ := [some (.ref t)]) lfA c9 hno Lt (lamP_by (sc := defScope s_law_form) (by decide +kernel)) (by decide) rfl (fun i x v h1 h2 => by
            match i, h1, h2 with
            | 0, h1, h2 => exact ⟨0, h1, h2⟩
            | i + 1, h1, h2 => simp at h2) rfl (fun q cl pm cv ctv us hl => match us, hl with | [_], _ => rfl)
            (fun A' outer' s' H' E' hr' => pe_df DH (Room.mono hr' (Nat.le_refl _)) passL (by rfl) (pa_cons (pv 1) (pa_cons (pv 0) pa_nil)))
          refine ⟨lf, s0 + h, lstep ([b] : Row), s0 + m.length - l, lstep ([a] : Row), c, rfl, ⟨sp, TH, hL, fun n H' Qn sn qn => ?_⟩, by omega, by omega, by omega, fun p H' sp' hF => ?_⟩
          · have sn' := same_unl hno sn
            have ln : Lies L H' := lies_lend.same sn
            refine ⟨Qn, E0, use _ H' Qn E0 sn rfl ⟨_, rfl, _, rfl, t, (s0, [b], m, [a]), n, rfl, hD9.same sn', nb, na, ?_⟩, fun _ _ z => z, fun _ _ _ z => z⟩
            intro _
            show Qn (.bl (memF (s0, [b], m, [a]) n)) (lend L (unl L H'))
            rw [lend_unl ln, ← hc]
            exact qn H' (Same.refl H')
          · have sp2 := same_unl hno sp'
            have lp : Lies L H' := lies_lend.same sp'
            rw [show (((lstep ([b] : Row) : Nat) : Int)) = 1 from eB, lstep_one, lstep_one, rowC_one, rowC_one] at hF
            have e1' : (s0 + (m.length : Int) - (l : Int) - (s0 + (h : Int))).toNat = m.length - l - h := by omega
            rw [e1', hha _ (by omega), hla _ (by omega), hc, rowC_mid hl hh] at hF
            refine q (s0 + h, [b], (m.take (m.length - l)).drop h, [a]) p _ (.inr ⟨fun z => hA fun j _ => ?_, l, h, hl, fun j hj => ?_, fun e => ?_, fun hl' => ?_, hh, fun j hj => ?_, ?_, rfl⟩) (nt9.trans (Same.nt sp2)) (T9.ext sp2) (formAt_unl lp hF)
            · have al : ∀ n, c n = a := fun n => by
                by_cases h1 : n < s0
                · rw [cb n h1, z.1]
                · by_cases h2 : n < s0 + m.length
                  · rw [hc, mem_mid (by omega) h2]
                    exact z.2 _ (by omega)
                  · exact ca n (by omega)
              rw [← hc, al, al]
            · have y := hla (s0 + m.length - 1 - j) (by omega)
              rw [hc, mem_mid (by omega) (by omega)] at y
              rw [← y]
              congr 1
              omega
            · rw [cb _ (by omega)] at hlb
              exact hlb
            · rw [hc, mem_mid (by omega) (by omega)] at hlb
              intro y
              refine hlb ?_
              rw [← y]
              congr 1
              omega
            · have y := hha (s0 + j) (by omega)
              rw [hc, mem_mid (by omega) (by omega)] at y
              rw [← y]
              congr 1
              omega
            · by_cases hlt : h < m.length - l
              · refine .inr fun y => (hhb.elim (fun z => absurd z (Nat.ne_of_lt hlt)) id) ?_
                rw [hc, mem_mid (by omega) (by omega)]
                rw [← y]
                congr 1
                omega
              · exact .inl (by omega)
        · rintro next i σ H7 hi ⟨s7, fr, z5, z6, z8, rfl, hha⟩
          have hD7 := hD.same (s15.trans s7)
          refine ⟨_, rfl, _, rfl, t, _, _, rfl, hD7, nb, na, _, rfl, _, rfl, _, rfl, _, _, rfl, rfl, t, _, _, rfl, hD7, nb, na, rfl, _, rfl, ?_⟩
          rw [neb]
          have e2 : memF (s0, [b], m, [a]) (s0 + (i : Int) - ((lstep ([b] : Row) : Nat) : Int)) = b := by
            rw [← hc]
            exact hha _ (by omega)
          by_cases hx : memF (s0, [b], m, [a]) (s0 + (i : Int)) = b
          · refine iteF' (c := !decide (memF (s0, [b], m, [a]) (s0 + (i : Int)) = memF (s0, [b], m, [a]) (s0 + (i : Int) - ((lstep ([b] : Row) : Nat) : Int)))) (by rw [e2, hx]; simp) ?_
            refine ⟨_, rfl, _, _, rfl, rfl, s7, _, _, _, _, (by rw [show s0 + ((i + 1 : Nat) : Int) = s0 + (i : Int) + 1 by omega]; rfl), fun n hn => ?_⟩
            by_cases hy : n < s0 + (i : Int)
            · exact hha n hy
            · rw [show n = s0 + (i : Int) by omega, hc]
              exact hx
          · refine iteT' (c := !decide (memF (s0, [b], m, [a]) (s0 + (i : Int)) = memF (s0, [b], m, [a]) (s0 + (i : Int) - ((lstep ([b] : Row) : Nat) : Int)))) (by rw [e2]; simpa using hx) ?_
            refine next _ _ ⟨s7, i, _, _, _, _, rfl, by omega, hha, .inr ?_⟩
            rw [hc]
            exact hx
        · rintro σ H7 ⟨s7, fr, z5, z6, z8, rfl, hha⟩
          exact ⟨s7, _, fr, z5, z6, z8, rfl, Nat.le_refl _, hha, .inl rfl⟩
      · rintro next i σ H6 hi ⟨s6, fr, z5, z6, z7, z8, rfl, hla⟩
        have hD6 := hD.same (s15.trans s6)
        refine ⟨_, rfl, _, rfl, _, _, rfl, rfl, t, _, _, rfl, hD6, nb, na, _, rfl, _, rfl, _, _, rfl, rfl, _, rfl, _, _, rfl, rfl, t, _, _, rfl, hD6, nb, na, rfl, _, rfl, ?_⟩
        rw [neb]
        have e2 : memF (s0, [b], m, [a]) (s0 + (m.length : Int) - (i : Int) - 1 + ((lstep ([a] : Row) : Nat) : Int)) = a := by
          rw [← hc]
          exact hla _ (by omega)
        by_cases hx : memF (s0, [b], m, [a]) (s0 + (m.length : Int) - (i : Int) - 1) = a
        · refine iteF' (c := !decide (memF (s0, [b], m, [a]) (s0 + (m.length : Int) - (i : Int) - 1) = memF (s0, [b], m, [a]) (s0 + (m.length : Int) - (i : Int) - 1 + ((lstep ([a] : Row) : Nat) : Int)))) (by rw [e2, hx]; simp) ?_
          refine ⟨_, rfl, _, _, rfl, rfl, s6, _, _, _, _, _, (by rw [show s0 + (m.length : Int) - ((i + 1 : Nat) : Int) = s0 + (m.length : Int) - (i : Int) - 1 by omega]; rfl), fun n hn => ?_⟩
          by_cases hy : s0 + (m.length : Int) - (i : Int) ≤ n
          · exact hla n hy
          · rw [show n = s0 + (m.length : Int) - (i : Int) - 1 by omega, hc]
            exact hx
        · refine iteT' (c := !decide (memF (s0, [b], m, [a]) (s0 + (m.length : Int) - (i : Int) - 1) = memF (s0, [b], m, [a]) (s0 + (m.length : Int) - (i : Int) - 1 + ((lstep ([a] : Row) : Nat) : Int)))) (by rw [e2]; simpa using hx) ?_
          refine next _ _ ⟨s6, i, _, _, _, _, _, rfl, ?_, hla, ?_⟩
          · refine Nat.le_of_not_lt fun hlt => hx ?_
            have y1 := hla (s0 - 1) (by omega)
            rw [cb _ (by omega)] at y1
            rw [← hc, cb _ (by omega), y1]
          · rw [hc]
            exact hx
      · rintro σ H6 ⟨s6, fr, z5, z6, z7, z8, rfl, hla⟩
        refine absurd (fun j _ => ?_) hA
        show memF (s0, [b], m, [a]) (farD (s0, [b], m, [a]) + (j : Int)) = memF (s0, [b], m, [a]) (farD (s0, [b], m, [a]) + (j : Int) + ((lstep ([a] : Row) : Nat) : Int))
        rw [← hc, hla _ (by omega), hla _ (by omega)]
    · -- a word: it is one word throughout
      refine absurd (fun j _ => ?_) hA
      show memF (0, w0, [], w0) (farD (0, w0, [], w0) + (j : Int)) = memF (0, w0, [], w0) (farD (0, w0, [], w0) + (j : Int) + ((lstep w0 : Nat) : Int))
      rw [mem_word, mem_word, hw]
      exact (Pr.len w0 _).symm
end
end Rk
set_option maxHeartbeats 4000000
/-! The law's defs, fifth part: one form, why, whys, due. -/
namespace Rk
open PySem PySem.Spec PyProof.Rows L2

/-- the data of a form -/
def formD (F : Form) : PyData := .tuple [.int F.1, .tuple (rowD F.2.1), .tuple (rowD F.2.2.1), .tuple (rowD F.2.2.2)]
theorem dp_form {K : PySem.W.Frag} {H : Hp} {p : Addr} {F : Form} (h : FormAt K H p F) : Dp K H (.ref p) (formD F) :=
  let ⟨_, _, _, h1, h2, h3, h4⟩ := h
  .tup h1 (.cons (.int _) (.cons (dp_row h2) (.cons (dp_row h3) (.cons (dp_row h4) .nil))))
theorem canLay_form (F : Form) : (formD F).canLay0 = true := by
  have e : ∀ r : Row, PyData.canLay0 (.tuple (rowD r)) = true := fun r => by
    unfold PyData.canLay0
    exact canLay_row r
  show (PyData.canLay0 (.int F.1) && (PyData.canLay0 (.tuple (rowD F.2.1)) && (PyData.canLay0 (.tuple (rowD F.2.2.1)) && (PyData.canLay0 (.tuple (rowD F.2.2.2)) && PyData.canLayAll0 [])))) = true
  rw [e, e, e]
  rfl
theorem shaped_form (F : Form) : SeqAt.shaped (formD F) = true := by
  unfold SeqAt.shaped
  have h2 : PyData.depth (formD F) = 2 := by
    have e : ∀ r : Row, PyData.depth (.tuple (rowD r)) = 1 := fun r => by
      unfold PyData.depth
      rw [depth_row]
    show max (PyData.depth (.int F.1)) (max (PyData.depth (.tuple (rowD F.2.1))) (max (PyData.depth (.tuple (rowD F.2.2.1))) (max (PyData.depth (.tuple (rowD F.2.2.2))) (PyData.depthAll [])))) + 1 = 2
    rw [e, e, e]
    rfl
  rw [canLay_form, h2]
  rfl
theorem eqv_form (F : Form) : PyData.eqv (formD F) (formD F) = true := by
  have e : ∀ r : Row, PyData.eqv (.tuple (rowD r)) (.tuple (rowD r)) = true := fun r => by
    rw [eqv_rowT]
    exact decide_eq_true rfl
  show (PyData.eqv (.int F.1) (.int F.1) && (PyData.eqv (.tuple (rowD F.2.1)) (.tuple (rowD F.2.1)) && (PyData.eqv (.tuple (rowD F.2.2.1)) (.tuple (rowD F.2.2.1)) && (PyData.eqv (.tuple (rowD F.2.2.2)) (.tuple (rowD F.2.2.2)) && PyData.eqvAll [] [])))) = true
  rw [e, e, e]
  have : PyData.eqv (.int F.1) (.int F.1) = true := by
    unfold PyData.eqv
    simp
  rw [this]
  rfl
/-- the told form at t and the form F that a one must show -/
def Told (K : PySem.W.Frag) (H : Hp) (t : Addr) (F : Form) : Prop :=
  (∃ s b m a, FormAt K H t (s, [b], m, [a]) ∧ m.length ≤ 90000 ∧ SF s b m a F) ∨ (∃ w, FormAt K H t (0, w, [], w) ∧ w ≠ [] ∧ lstep w = w.length ∧ w.length ≤ 1000 ∧ F = (0, w, [], w))
theorem Told.kp {K : PySem.W.Frag} {H H' : Hp} {t : Addr} {F : Form} (h : Told K H t F) (s : KP H H') : Told K H' t F :=
  h.imp (fun ⟨a, b, c, d, h1, h2⟩ => ⟨a, b, c, d, h1.kp s, h2⟩) fun ⟨a, h1, h2⟩ => ⟨a, h1.kp s, h2⟩
def spIsOne (K : PySem.W.Frag) (C : Addr) (T : List (Addr × Str)) : Sp := fun vs H Q _ => ∃ p F t, vs = [.ref p, .ref t] ∧ Rou K C H p F ∧ Told K H t F ∧ F.2.1.length ≤ 1000000 ∧ F.2.2.1.length ≤ 1000000 ∧ F.2.2.2.length ≤ 1000000 ∧ LamX.Tabs T H ∧
  ∀ H', NT H H' → LamX.Tabs T H' → Q (.bl true) H'

/-! ### what a call that is tried comes to -/
/-- an error of the class at C with the fields fs reads as d -/
inductive Read (K : PySem.W.Frag) (BN BR TM : Addr) (H : Hp) : Addr → List (Str × V) → PyData → Prop
  | bn {v : V} {e : PyData} {wh : Str} (hd : Dp K H v e) (h1 : e.showable = true) (h2 : e.hasDict = false) (h3 : e.shown.length ≤ sizeLine) (h4 : e.depth ≤ 10) : Read K BN BR TM H BN [("value", v), ("what", .str wh)] (.tuple [.str "number", .str wh, .str e.shown])
  | br {v : V} {e : PyData} (hd : Dp K H v e) (h1 : e.showable = true) (h2 : e.hasDict = false) (h3 : e.shown.length ≤ sizeLine) (h4 : e.depth ≤ 10) : Read K BN BR TM H BR [("value", v)] (.tuple [.str "row", .str e.shown])
  | tm {wh : Str} {n : Int} : Read K BN BR TM H TM [("limit", .int n), ("what", .str wh)] (.tuple [.str "many", .str wh, .int n])
/-- what stands at f, called with nothing, comes to d -/
structure Gives (P : Program) (w : World) (K : PySem.W.Frag) (mg : Str → Option Value) (base : Heap) (BN BR TM : Addr) (k : Nat) (H : Hp) (f : Addr) (d : PyData) : Prop where
  ex : ∃ sp : Sp, Th P w K mg base k f sp ∧ ∀ (H' : Hp) (Q : VK) (E : XK), Same H H' → (d = .none → ∀ v H'', Same H' H'' → Q v H'') → (∀ C fs, Read K BN BR TM H' C fs d → Rz C fs H' E) →
    ∃ (Q' : VK) (E' : XK), sp [] H' Q' E' ∧ (∀ v H'', Q' v H'' → Q v H'') ∧ ∀ cls dx H'', E' cls dx H'' → E cls dx H''
theorem Gives.same {P : Program} {w : World} {K : PySem.W.Frag} {mg : Str → Option Value} {base : Heap} {BN BR TM : Addr} {k : Nat} {H H1 : Hp} {f : Addr} {d : PyData} (h : Gives P w K mg base BN BR TM k H f d) (s : Same H H1) : Gives P w K mg base BN BR TM k H1 f d := by
  obtain ⟨sp, T, h⟩ := h.ex
  exact ⟨sp, T, fun H' Q E s' => h H' Q E (s.trans s')⟩
/-- what the clauses ask of the classes -/
structure ExL (K : PySem.W.Frag) (mg : Str → Option Value) (BN BR TM BT BP : Addr) : Prop where
  bn : mg "BadNumber" = some (.ref BN)
  br : mg "BadRow" = some (.ref BR)
  tm : mg "TooMany" = some (.ref TM)
  bt : mg "BadText" = some (.ref BT)
  bp : mg "BadPlace" = some (.ref BP)
  nn : PySem.W.exmOne K (.ref BN) (.ref BN) = some true
  rn : PySem.W.exmOne K (.ref BR) (.ref BN) = some false
  rr : PySem.W.exmOne K (.ref BR) (.ref BR) = some true
  tn : PySem.W.exmOne K (.ref TM) (.ref BN) = some false
  tr : PySem.W.exmOne K (.ref TM) (.ref BR) = some false
  tt : PySem.W.exmOne K (.ref TM) (.ref TM) = some true
  xn : XfC K BN
  xr : XfC K BR
  xt : XfC K TM
  n1 : PySem.W.findIn K (.ref BN) "what" = some none
  n2 : PySem.W.findIn K (.ref BN) "value" = some none
  r1 : PySem.W.findIn K (.ref BR) "value" = some none
  t1 : PySem.W.findIn K (.ref TM) "what" = some none
  t2 : PySem.W.findIn K (.ref TM) "limit" = some none
def spWhy (P : Program) (w : World) (K : PySem.W.Frag) (mg : Str → Option Value) (base : Heap) (BN BR TM : Addr) (k : Nat) : Sp := fun vs H Q _ => ∃ f d, vs = [.ref f] ∧ Gives P w K mg base BN BR TM k H f d ∧ ∀ v H', Same H H' → Dp K H' v d → Q v H'
def spWhys (P : Program) (w : World) (K : PySem.W.Frag) (mg : Str → Option Value) (base : Heap) (BN BR TM : Addr) (k : Nat) : Sp := fun vs H Q _ => ∃ (l : Addr) (dv : V) (fs : List Addr) (d : PyData), vs = [.ref l, dv] ∧ SqL K H l (fs.map V.ref) ∧ fs.length ≤ 1000 ∧ (∀ f ∈ fs, Gives P w K mg base BN BR TM k H f d) ∧ Dp K H dv d ∧ SeqAt.shaped d = true ∧ ∀ H', Same H H' → Q (.bl true) H'
def dueD (n : Int) : PyData := if n > 20000 then .tuple [.str "many", .str "period", .int 20000] else .none
def spDue (K : PySem.W.Frag) : Sp := fun vs H Q _ => ∃ n : Int, vs = [.int n] ∧ ∀ v H', Same H H' → Dp K H' v (dueD n) → Q v H'
section
variable {P : Program} {w : World} {K : PySem.W.Frag} {mg : Str → Option Value} {base : Heap}
theorem reprS {X : Cx} (h : X.K = K) (hg : X.A.guards = some []) (hu : X.A.units + 64 < cLine) : CallR X (.builtin "repr") (rRepr K) := by
  subst h
  exact cr_repr hg hu
theorem pss_never {X : Cx} {ss : List Stmt} : PSs X ss (fun _ _ _ => False) := ⟨fun _ _ _ _ _ _ h => h.elim⟩
theorem ok_isOne {C : Addr} {T : List (Addr × Str)} (h : Has K mg "_law_is_one_form" s_law_is_one_form) (TX : Tx K mg) (R : RC K mg C) (DI : Df P w K mg base 1 "_law_is_int" ["_law_value"] (spIsInt K)) (DO : Df P w K mg base 1 "_law_odd_items" ["_law_row"] (spOddI K))
    (DT : Df P w K mg base 1 "_law_told" ["_law_one"] (spTold K C)) (DF : Df P w K mg base 4 "_law_form" ["_law_told_here"] (spForm K T)) : Df P w K mg base 5 "_law_is_one_form" ["_law_one", "_law_told_here"] (spIsOne K C T) := by
  refine h.df c_law_is_one_form (fun _ _ _ _ _ _ us hl => match us, hl with | [_, _], _ => rfl) (fun vs H Q E ⟨_, _, _, e, _⟩ => by rw [e]; rfl) fun f cdv A outer s H vs Q E hr hs => ?_
  obtain ⟨p, F, t, rfl, hR, hT, z1, z2, z3, hTb, q⟩ := hs
  have hr1 := hr.mono (show 1 ≤ 4 by decide)
  refine ⟨_, (pss_cons (ps_if (pt_not (pt_val (pe_df DI hr1 passL (by rfl) (pa_cons (fldS (K := K) rfl (pv 0)) pa_nil)))) (pss_one (ps_ret pe_bl)) pss_nil)
    (pss_cons (ps_for (passes_of rfl) rfl (piL (K := K) rfl (pe_lst (pa_cons (fldS (K := K) rfl (pv 0)) (pa_cons (fldS (K := K) rfl (pv 0)) (pa_cons (fldS (K := K) rfl (pv 0)) pa_nil))))) (pg_name (i := 2) c_law_is_one_form.nd rfl (.inl rfl)) (pss_one (ps_if (PW.pt (pw_or (pt_not (pt_val (pe_callB call_isi (by rfl) TX.isinstance boot_isinstance (pa_cons (pv 2) (pa_cons (pe_bltn (v := .ty "tuple") (by rfl) TX.tuple boot_tuple rfl) pa_nil))))) (pw_or1 (pt_cmpR (op_neD hr.units) (pe_df DO hr1 passL (by rfl) (pa_cons (pv 2) pa_nil)) (pe_lst pa_nil) (nomark _))))) (pss_one (ps_ret pe_bl)) pss_nil)))
    (pss_one (ps_ret (pe_cmpR (op_eqD hr.units) (pe_df DT hr1 passL (by rfl) (pa_cons (pv 0) pa_nil)) (pe_df DF hr passL (by rfl) (pa_cons (pv 1) pa_nil)) (nomark _)))))), ?_⟩
  obtain ⟨dx, b, m, a, h1, h2, h3, h4⟩ := hR.ex
  refine ⟨_, rfl, p, C, dx, _, _, rfl, h1, R.cl, R.no _ (by simp), fld_start _ _ _ _, _, _, rfl, .int F.1, _, rfl, ?_⟩
  refine iteF ?_
  refine ⟨_, rfl, p, C, dx, _, _, rfl, h1, R.cl, R.no _ (by simp), fld_below _ _ _ _, _, rfl, p, C, dx, _, _, rfl, h1, R.cl, R.no _ (by simp), fld_middle _ _ _ _, _, rfl, p, C, dx, _, _, rfl, h1, R.cl, R.no _ (by simp), fld_above _ _ _ _, (by show 3 ≤ sizeLine; decide), fun l nl => ?_⟩
  have s1 := same_upd (o := .lst [.ref b, .ref m, .ref a]) nl
  refine ⟨l, rfl, ⟨_, sqL_new⟩, for_list (K := K) (a := l) (xs := [.ref b, .ref m, .ref a]) (fun i σ H' => Same (upd H l (.lst [.ref b, .ref m, .ref a])) H' ∧ ∃ z : Option V, σ = [some (.ref p), some (.ref t), z]) ⟨Same.refl _, _, rfl⟩ (fun i σ H' _ hp => sqL_same sqL_new hp.1) ?_ ?_⟩
  · rintro i x σ H' hx ⟨s2, z, rfl⟩
    obtain ⟨c, r, rfl, hc, hz⟩ : ∃ (c : Addr) (r : Row), x = .ref c ∧ SqT K H c (bls r) ∧ r.length ≤ 1000000 := by
      match i, hx with
      | 0, e => exact ⟨b, _, (Option.some.inj e).symm, h2, z1⟩
      | 1, e => exact ⟨m, _, (Option.some.inj e).symm, h3, z2⟩
      | 2, e => exact ⟨a, _, (Option.some.inj e).symm, h4, z3⟩
      | i + 3, e => simp at e
    have hc' := sqT_same hc (s1.trans s2)
    refine ⟨_, rfl, .ref c, _, _, _, _, rfl, .ty "tuple", tyx_of (dp_row hc'), kit_tup _, _, rfl, ?_⟩
    refine iteF ⟨_, rfl, c, r, rfl, hc', hz, fun l3 H3 s3 l3e => ⟨(by show 0 ≤ sizeLine; decide), fun l4 n4 => ?_⟩⟩
    have s4 := same_upd (o := .lst []) n4
    refine ⟨_, _, .lst (sqL_same (sqL_at l3e) s4) .nil, .lst sqL_new .nil, rfl, rfl, _, rfl, ?_⟩
    refine iteF ⟨s2.trans (s3.trans s4), _, rfl⟩
  · rintro σ H' ⟨s2, z, rfl⟩
    have s12 := s1.trans s2
    refine ⟨_, rfl, p, F, rfl, hR.same s12, fun r H3 s3 f3 => ?_⟩
    have s13 := s12.trans s3
    have fin : ∀ (g : Addr) (H4 : Hp), NT H H4 → NT H3 H4 → LamX.Tabs T H4 → FormAt K H4 g F → ∃ d e, Dp K H4 (.ref r) d ∧ Dp K H4 (.ref g) e ∧ SeqAt.shaped d = true ∧ SeqAt.shaped e = true ∧ Q (.bl (PyData.eqv d e)) H4 := fun g H4 n4 n34 t4 f4 => by
      refine ⟨_, _, dp_form (f3.kp n34.kp), dp_form f4, shaped_form F, shaped_form F, ?_⟩
      rw [eqv_form]
      exact q H4 n4 t4
    refine ⟨_, rfl, t, rfl, hTb.ext s13, ?_⟩
    rcases hT.kp (Same.kp s13) with ⟨s0, b0, m0, a0, g1, g2, g3⟩ | ⟨w0, g1, g2, g3, g4, rfl⟩
    · exact .inl ⟨s0, b0, m0, a0, g1, g2, fun G g H4 hG n4 t4 f4 => fin g H4 ((Same.nt s13).trans n4) n4 t4 (by rw [sf_uniq g3 hG]; exact f4)⟩
    · exact .inr ⟨w0, g1, g2, g3, g4, fun g H4 n4 t4 f4 => fin g H4 ((Same.nt s13).trans n4) n4 t4 f4⟩
theorem ok_why {BN BR TM BT BP : Addr} {k : Nat} (h : Has K mg "_law_why" s_law_why) (TX : Tx K mg) (X5 : ExL K mg BN BR TM BT BP) : DfG P w K mg base (k + 1) "_law_why" ["_law_call"] (spWhy P w K mg base BN BR TM k) := by
  refine h.dfG c_law_why (fun _ _ _ _ _ _ us hl => match us, hl with | [_], _ => rfl) (fun vs H Q E ⟨_, _, e, _⟩ => by rw [e]; rfl) fun f cdv A outer s H vs Q E hr hg hs => ?_
  obtain ⟨th, d, rfl, ⟨sp, hTh, hgv⟩, q⟩ := hs
  refine ⟨_, pss_cons (ps_try_asN rfl rfl c_law_why.nd (takes_of rfl rfl rfl rfl) (fun W pn xe tk po => pss_one (ps_expr (pe_th0 (i := 0) hTh hr tk rfl (.inl rfl))))
      (.cons ⟨by rfl, by decide, .inl X5.bn⟩ (i := 1) rfl rfl (fun a oe cls dx pn hz hf => pss_one (ps_ret (pe_tup (pa_cons pe_str (pa_cons (pe_xf X5.xn X5.n1 hz hf (pv 1)) (pa_cons (pe_callB (reprS (K := K) rfl hg hr.units) (by rfl) TX.repr boot_repr (pa_cons (pe_xf X5.xn X5.n2 hz hf (pv 1)) pa_nil)) pa_nil)))))) <|
       .cons ⟨by rfl, by decide, .inl X5.br⟩ (i := 1) rfl rfl (fun a oe cls dx pn hz hf => pss_one (ps_ret (pe_tup (pa_cons pe_str (pa_cons (pe_callB (reprS (K := K) rfl hg hr.units) (by rfl) TX.repr boot_repr (pa_cons (pe_xf X5.xr X5.r1 hz hf (pv 1)) pa_nil)) pa_nil))))) <|
       .cons ⟨by rfl, by decide, .inl X5.tm⟩ (i := 1) rfl rfl (fun a oe cls dx pn hz hf => pss_one (ps_ret (pe_tup (pa_cons pe_str (pa_cons (pe_xf X5.xt X5.t1 hz hf (pv 1)) (pa_cons (pe_xf X5.xt X5.t2 hz hf (pv 1)) pa_nil)))))) <|
       .cons ⟨by rfl, by decide, .inl X5.bt⟩ (i := 1) rfl rfl (fun a oe cls dx pn hz hf => pss_never) <|
       .cons ⟨by rfl, by decide, .inl X5.bp⟩ (i := 1) rfl rfl (fun a oe cls dx pn hz hf => pss_never) .nil)) (pss_one (ps_ret pe_non)), ?_⟩
  obtain ⟨Q', E', g1, g2, g3⟩ := hgv H (fun _ H' => d = .none ∧ Same H H') (fun cls dx H' => ∃ C fs e, Read K BN BR TM H C fs d ∧ cls = .ref C ∧ dx = some e ∧ Same H H' ∧ H' e = some (.xd fs)) (Same.refl H) (fun e v H' s' => ⟨e, s'⟩) (fun C fs r dx H' s' _ e => ⟨C, fs, dx, r, rfl, rfl, s', e⟩)
  refine ⟨rfl, Q', E', g1, fun v H' z => ?_, fun cls dx H' z => ?_⟩
  · obtain ⟨e, s1⟩ := g2 v H' z
    exact q .non H' s1 (by rw [e]; exact .non)
  · obtain ⟨C, fs, e, hr_, rfl, rfl, s1, he⟩ := g3 cls dx H' z
    cases hr_ with
    | @bn v ev wh hd e1 e2 e3 e4 =>
      refine ⟨true, X5.nn, fun _ a na => ?_, fun z => by cases z⟩
      refine ⟨_, rfl, rfl, rfl, e, _, .str wh, rfl, he, rfl, _, rfl, rfl, rfl, e, _, v, rfl, he, rfl, v, ev, rfl, dp_same hd s1, e1, e2, e3, e4, (by show 3 ≤ sizeLine; decide), fun p np => ?_⟩
      have s2 := same_upd (o := .tup [.str "number", .str wh, .str ev.shown]) np
      exact q _ _ (s1.trans s2) (.tup sqT_new (.cons (.str _) (.cons (.str _) (.cons (.str _) .nil))))
    | @br v ev hd e1 e2 e3 e4 =>
      refine ⟨false, X5.rn, fun z => (by cases z), fun _ => ⟨true, X5.rr, fun _ a na => ?_, fun z => by cases z⟩⟩
      refine ⟨_, rfl, rfl, rfl, e, _, v, rfl, he, rfl, v, ev, rfl, dp_same hd s1, e1, e2, e3, e4, (by show 2 ≤ sizeLine; decide), fun p np => ?_⟩
      have s2 := same_upd (o := .tup [.str "row", .str ev.shown]) np
      exact q _ _ (s1.trans s2) (.tup sqT_new (.cons (.str _) (.cons (.str _) .nil)))
    | @tm wh n =>
      refine ⟨false, X5.tn, fun z => (by cases z), fun _ => ⟨false, X5.tr, fun z => (by cases z), fun _ => ⟨true, X5.tt, fun _ a na => ?_, fun z => by cases z⟩⟩⟩
      refine ⟨_, rfl, rfl, rfl, e, _, .str wh, rfl, he, rfl, _, rfl, rfl, rfl, e, _, .int n, rfl, he, rfl, (by show 3 ≤ sizeLine; decide), fun p np => ?_⟩
      have s2 := same_upd (o := .tup [.str "many", .str wh, .int n]) np
      exact q _ _ (s1.trans s2) (.tup sqT_new (.cons (.str _) (.cons (.str _) (.cons (.int _) .nil))))
theorem eqv_shaped {d : PyData} (h : SeqAt.shaped d = true) : PyData.eqv d d = true := by
  unfold SeqAt.shaped at h
  exact SeqAt.eqv_refl d (Bool.and_eq_true_iff.mp h).1
theorem ok_whys {BN BR TM BT BP : Addr} {k : Nat} (h : Has K mg "_law_whys" s_law_whys) (DW : DfG P w K mg base (k + 1) "_law_why" ["_law_call"] (spWhy P w K mg base BN BR TM k)) : DfG P w K mg base (k + 2) "_law_whys" ["_law_calls", "_law_due_here"] (spWhys P w K mg base BN BR TM k) := by
  refine h.dfG c_law_whys (fun _ _ _ _ _ _ us hl => match us, hl with | [_, _], _ => rfl) (fun vs H Q E ⟨_, _, _, _, e, _⟩ => by rw [e]; rfl) fun f cdv A outer s H vs Q E hr hg hs => ?_
  obtain ⟨l, dv, fs, d, rfl, hl, hz, hf, hd, sd, q⟩ := hs
  refine ⟨_, (pss_one (ps_ret (pe_cmpR (op_eqD hr.units) (pe_lc (own := [("_law_call", 2)]) (g := gName 2) rfl c_law_whys.nd (piL (K := K) rfl (pv 0)) (blkOk_by (N := n_law_whys) (sc := defScope s_law_whys) (by decide +kernel)) (fun _ _ _ _ _ => pg_name (i := 2) c_law_whys.nd rfl (Or.inl rfl)) (fun _ _ _ _ _ => pts_one (pt_cmpR (neDS (K := K) rfl hr.units) (pe_dfG DW hr hg passL (by rfl) (pa_cons (pv 2) pa_nil)) (pv 1) (nomark _))) (fun _ _ _ _ _ => (pv 2))) (pe_lst pa_nil) (nomark _)))), ?_⟩
  refine ⟨_, rfl, l, rfl, ⟨_, hl⟩, ?_⟩
  refine lcLF (i := 2) (fun _ => false) id (by rw [List.length_map]; exact Nat.le_trans hz (by decide)) hl (fun j x H' Qb hx s1 qb => ?_) (fun j x H' Qy hx hk _ _ => by cases hk) fun D H1 n1 s1 e1 => ?_
  · rw [List.getElem?_map] at hx
    obtain ⟨f1, hf1, rfl⟩ := Option.map_eq_some_iff.mp hx
    refine ⟨_, rfl, f1, d, rfl, (hf f1 (List.mem_of_getElem? hf1)).same s1, fun v H2 s2 hv => ⟨_, rfl, d, d, hv, dp_same hd (s1.trans s2), sd, sd, _, rfl, ?_⟩⟩
    rw [eqv_shaped sd]
    exact qb H2 s2
  · have e2 : H1 D = some (.lst []) := by
      rw [e1]
      congr 2
      rw [List.map_eq_nil_iff, List.filter_eq_nil_iff]
      exact fun _ _ => by simp
    refine ⟨(by show 0 ≤ sizeLine; decide), fun p3 n3 => ?_⟩
    have s3 := same_upd (o := .lst []) n3
    exact ⟨_, _, .lst (sqL_same (sqL_at e2) s3) .nil, .lst sqL_new .nil, rfl, rfl, q _ (s1.trans s3)⟩
theorem ok_due (h : Has K mg "_law_due" s_law_due) : Df P w K mg base 1 "_law_due" ["_law_many"] (spDue K) := by
  refine h.df c_law_due (fun _ _ _ _ _ _ us hl => match us, hl with | [_], _ => rfl) (fun vs H Q E ⟨_, e, _⟩ => by rw [e]; rfl) fun f cdv A outer s H vs Q E hr hs => ?_
  obtain ⟨n, rfl, q⟩ := hs
  refine ⟨_, (pss_one (ps_ret (pe_ifExp (pt_cmpR op_gt (pv 0) pe_int (nomark _)) (pe_tup (pa_cons pe_str (pa_cons pe_str (pa_cons pe_int pa_nil)))) pe_non))), ?_⟩
  refine ⟨_, rfl, _, _, rfl, rfl, _, rfl, ?_⟩
  unfold dueD at q
  by_cases hn : n > 20000
  · rw [if_pos hn] at q
    rw [decide_eq_true hn]
    refine iteT ⟨(by show 3 ≤ sizeLine; decide), fun p np => ?_⟩
    exact q _ _ (same_upd np) (.tup sqT_new (.cons (.str _) (.cons (.str _) (.cons (.int _) .nil))))
  · rw [if_neg hn] at q
    rw [decide_eq_false hn]
    exact iteF (q _ _ (Same.refl H) .non)
end
end Rk
set_option maxHeartbeats 4000000
/-! The law's defs, sixth part: plain facts for _law_makes. -/
namespace Rk
open PySem PySem.Spec PyProof.Rows L2

theorem trs_pad {ns : List Int} {lo hi lo2 hi2 : Int} (h1 : lo ≤ lo2) (h2 : hi2 ≤ hi) (h3 : lo2 ≤ hi2) (h4 : ∀ y ∈ ns, lo2 ≤ y ∧ y ≤ hi2) :
    trs ns lo (hi - lo + 1).toNat = List.replicate (lo2 - lo).toNat false ++ trs ns lo2 (hi2 - lo2 + 1).toNat ++ List.replicate (hi - hi2).toNat false := by
  refine List.ext_getElem? fun k => ?_
  unfold trs
  rw [List.getElem?_map]
  by_cases k1 : k < (lo2 - lo).toNat
  · rw [List.append_assoc, List.getElem?_append_left (by simpa using k1), List.getElem?_replicate, if_pos k1, List.getElem?_range (by omega)]
    show some (decide (lo + (k : Int) ∈ ns)) = some false
    rw [decide_eq_false fun z => ?_]
    have := h4 _ z
    omega
  · by_cases k2 : k < (lo2 - lo).toNat + (hi2 - lo2 + 1).toNat
    · rw [List.append_assoc, List.getElem?_append_right (by simpa using Nat.le_of_not_lt k1), List.length_replicate, List.getElem?_append_left (by rw [List.length_map, List.length_range]; omega), List.getElem?_map, List.getElem?_range (by omega), List.getElem?_range (by omega)]
      show some (decide (lo + (k : Int) ∈ ns)) = some (decide (lo2 + ((k - (lo2 - lo).toNat : Nat) : Int) ∈ ns))
      rw [show lo2 + ((k - (lo2 - lo).toNat : Nat) : Int) = lo + (k : Int) by omega]
    · rw [List.getElem?_append_right (by rw [List.length_append, List.length_replicate, List.length_map, List.length_range]; omega), List.length_append, List.length_replicate, List.length_map, List.length_range, List.getElem?_replicate]
      by_cases k3 : k < (hi - lo + 1).toNat
      · rw [List.getElem?_range k3, if_pos (by omega)]
        show some (decide (lo + (k : Int) ∈ ns)) = some false
        rw [decide_eq_false fun z => ?_]
        have := h4 _ z
        omega
      · rw [List.getElem?_eq_none (by simpa using Nat.le_of_not_lt k3), if_neg (by omega)]
        rfl
theorem trs_congr {ns ns2 : List Int} {lo : Int} {n : Nat} (h : ∀ y, y ∈ ns2 ↔ y ∈ ns) : trs ns2 lo n = trs ns lo n := by
  unfold trs
  refine List.map_congr_left fun k _ => ?_
  exact decide_eq_decide.mpr (h _)
theorem sf_listed {ns ns2 : List Int} {lo hi lo2 hi2 : Int} {F : Form} (hm : ∀ y, y ∈ ns2 ↔ y ∈ ns) (m1 : lo2 ∈ ns) (m2 : hi2 ∈ ns) (h4 : ∀ y ∈ ns, lo2 ≤ y ∧ y ≤ hi2) (h1 : lo ≤ lo2) (h2 : hi2 ≤ hi)
    (hF : SF lo2 false (trs ns2 lo2 (hi2 - lo2 + 1).toNat) false F) : SF lo false (trs ns lo (hi - lo + 1).toNat) false F := by
  have h3 := (h4 _ m1).2
  rw [trs_congr hm] at hF
  have hl : (trs ns lo2 (hi2 - lo2 + 1).toNat).length = (hi2 - lo2 + 1).toNat := trs_length _ _ _
  have ne : trs ns lo2 (hi2 - lo2 + 1).toNat ≠ [] := fun z => by
    rw [z] at hl
    simp at hl
    omega
  have g1 : (trs ns lo2 (hi2 - lo2 + 1).toNat).getD 0 false = true := by
    rw [trs_get (by omega), decide_eq_true_eq]
    rw [show lo2 + ((0 : Nat) : Int) = lo2 by omega]
    exact m1
  have g2 : (trs ns lo2 (hi2 - lo2 + 1).toNat).getD ((trs ns lo2 (hi2 - lo2 + 1).toNat).length - 1) false = true := by
    rw [hl, trs_get (by omega), decide_eq_true_eq]
    rw [show lo2 + (((hi2 - lo2 + 1).toNat - 1 : Nat) : Int) = hi2 by omega]
    exact m2
  have e := sf_uniq hF (sf_full lo2 false false ne (by rw [g1]; decide) (by rw [g2]; decide))
  rw [trs_pad h1 h2 h3 h4, e]
  have z := sf_pad lo (lo2 - lo).toNat (hi - hi2).toNat ne g1 g2
  rw [show lo + ((lo2 - lo).toNat : Int) = lo2 by omega] at z
  exact z
theorem sf_listed0 {lo : Int} {n : Nat} {F : Form} (hF : SF 0 false [] false F) : SF lo false (trs [] lo n) false F := by
  rw [trs_nil, sf_uniq hF (sf_const 0 false fun j hj => absurd hj (Nat.not_lt_zero _))]
  refine sf_const lo false fun j hj => ?_
  rw [List.length_replicate] at hj
  rw [List.getD_eq_getElem?_getD, List.getElem?_replicate, if_pos hj]
  rfl
theorem sf_size {s : Int} {b a : Bool} {m : Row} {F : Form} (h : SF s b m a F) : F.2.1.length ≤ 1 ∧ F.2.2.1.length ≤ m.length ∧ F.2.2.2.length ≤ 1 := by
  rcases h with ⟨_, _, rfl⟩ | ⟨_, l, k, _, _, _, _, _, _, _, rfl⟩
  · exact ⟨Nat.le_refl _, Nat.zero_le _, Nat.le_refl _⟩
  · refine ⟨Nat.le_refl _, ?_, Nat.le_refl _⟩
    show ((m.take (m.length - l)).drop k).length ≤ m.length
    rw [List.length_drop, List.length_take]
    omega
theorem word_hot {m : Nat} (hm : 0 < m) (r : Int) : (List.range m).map (fun (j : Nat) => V.bl (decide ((0 + (j : Int) - r) % (m : Int) = 0))) = bls (hot m (r % (m : Int)).toNat) := by
  unfold hot bls
  rw [List.map_map]
  refine List.map_congr_left fun j hj => ?_
  have hj := List.mem_range.mp hj
  have h0 := Int.emod_nonneg r (show (m : Int) ≠ 0 by omega)
  have h1 := Int.emod_lt_of_pos r (show (0 : Int) < m by omega)
  show V.bl _ = V.bl (decide (j = (r % (m : Int)).toNat))
  congr 1
  refine decide_eq_decide.mpr ⟨fun z => ?_, fun z => ?_⟩
  · rw [Int.zero_add] at z
    have e : (j : Int) % m = r % m := Int.emod_eq_emod_iff_emod_sub_eq_zero.mpr z
    rw [Int.emod_eq_of_lt (by omega) (by omega)] at e
    omega
  · have e : (j : Int) = r % m := by omega
    rw [Int.zero_add, e]
    exact Int.emod_eq_zero_of_dvd ⟨-(r / m), by have := Int.emod_add_mul_ediv r m; rw [Int.mul_neg]; omega⟩
theorem inV_int (x : Int) : ∀ ns : List Int, inV (.int x) (ns.map V.int) = decide (x ∈ ns)
  | [] => rfl
  | n :: ns => by
    have ih := inV_int x ns
    unfold inV at ih ⊢
    rw [List.map_cons, List.any_cons, ih]
    have e : eqV (.int n) (.int x) = decide (x = n) := by
      unfold eqV
      by_cases h : n = x
      · simp [h]
      · rw [decide_eq_false (fun z => h z.symm)]
        exact beq_eq_false_iff_ne.mpr h
    rw [e, ← Bool.decide_or]
    exact decide_eq_decide.mpr List.mem_cons.symm
theorem ints_flat : ∀ ns : List Int, (ns.map V.int).all flatV = true
  | [] => rfl
  | n :: ns => by
    show (flatV (.int n) && (ns.map V.int).all flatV) = true
    rw [ints_flat ns]
    rfl
end Rk
set_option maxHeartbeats 4000000
/-! The law's defs, seventh part: _law_makes. -/
namespace Rk
open PySem PySem.Spec PyProof.Rows L2

theorem RC.isi {K : PySem.W.Frag} {mg : Str → Option Value} {C : Addr} {H : Hp} {p : Addr} {F : Form} (R : RC K mg C) (h : Rou K C H p F) : TyX K H (.ref p) (.ref C) :=
  let ⟨_, _, _, _, h1, _⟩ := h.ex
  .base (.ins h1 R.cl R.ha R.hn R.htk R.hm)
/-- one pair: a Rounds and the form that is told of it -/
def PairOk (K : PySem.W.Frag) (C : Addr) (H : Hp) (x : V) : Prop := ∃ t p q F, x = .ref t ∧ SqT K H t [.ref p, .ref q] ∧ Rou K C H p F ∧ Told K H q F ∧ F.2.1.length ≤ 1000000 ∧ F.2.2.1.length ≤ 1000000 ∧ F.2.2.2.length ≤ 1000000
theorem PairOk.kp {K : PySem.W.Frag} {C : Addr} {H H' : Hp} {x : V} (h : PairOk K C H x) (s : KP H H') : PairOk K C H' x :=
  let ⟨t, p, q, F, e, h1, h2, h3, z⟩ := h
  ⟨t, p, q, F, e, sqT_kp h1 s, h2.kp s, h3.kp s, z⟩
theorem pair_fin {K : PySem.W.Frag} {C : Addr} {H : Hp} {p q t : Addr} {F : Form} (hR : Rou K C H p F) (hT : Told K H q F) (n : H t = none) (z1 : F.2.1.length ≤ 1000000) (z2 : F.2.2.1.length ≤ 1000000) (z3 : F.2.2.2.length ≤ 1000000) :
    Same H (upd H t (.tup [.ref p, .ref q])) ∧ PairOk K C (upd H t (.tup [.ref p, .ref q])) (.ref t) := by
  have s := same_upd (o := .tup [.ref p, .ref q]) n
  exact ⟨s, t, p, q, F, rfl, sqT_new, hR.same s, hT.kp (Same.kp s), z1, z2, z3⟩
/-- a pair with a form of single rows, laid anew -/
theorem pair_of {K : PySem.W.Frag} {C : Addr} {H : Hp} {p p1 p2 p3 p4 p5 : Addr} {F : Form} (s : Int) (b a : Bool) (m : Row) (hR : Rou K C H p F) (hF : SF s b m a F) (hm : m.length ≤ 90000) (n1 : H p1 = none) (n2 : (upd H p1 (.tup [.bl b])) p2 = none) (n3 : (upd (upd H p1 (.tup [.bl b])) p2 (.tup (bls m))) p3 = none)
    (n4 : (upd (upd (upd H p1 (.tup [.bl b])) p2 (.tup (bls m))) p3 (.tup [.bl a])) p4 = none) (n5 : (upd (upd (upd (upd H p1 (.tup [.bl b])) p2 (.tup (bls m))) p3 (.tup [.bl a])) p4 (.tup [.int s, .ref p1, .ref p2, .ref p3])) p5 = none) :
    Same H (upd (upd (upd (upd (upd H p1 (.tup [.bl b])) p2 (.tup (bls m))) p3 (.tup [.bl a])) p4 (.tup [.int s, .ref p1, .ref p2, .ref p3])) p5 (.tup [.ref p, .ref p4])) ∧
      PairOk K C (upd (upd (upd (upd (upd H p1 (.tup [.bl b])) p2 (.tup (bls m))) p3 (.tup [.bl a])) p4 (.tup [.int s, .ref p1, .ref p2, .ref p3])) p5 (.tup [.ref p, .ref p4])) (.ref p5) := by
  have s1 := same_upd (o := .tup [.bl b]) n1
  have s2 := same_upd (o := .tup (bls m)) n2
  have s3 := same_upd (o := .tup [.bl a]) n3
  have s4 := same_upd (o := .tup [.int s, .ref p1, .ref p2, .ref p3]) n4
  have hf : FormAt K _ p4 (s, [b], m, [a]) := ⟨p1, p2, p3, sqT_new, sqT_same sqT_new (s2.trans (s3.trans s4)), sqT_same sqT_new (s3.trans s4), sqT_same sqT_new s4⟩
  have hz := sf_size hF
  obtain ⟨s5, o⟩ := pair_fin (hR.same (s1.trans (s2.trans (s3.trans s4)))) (.inl ⟨s, b, m, a, hf, hm, hF⟩) n5 (Nat.le_trans hz.1 (by decide)) (Nat.le_trans hz.2.1 (Nat.le_trans hm (by decide))) (Nat.le_trans hz.2.2 (by decide))
  exact ⟨s1.trans (s2.trans (s3.trans (s4.trans s5))), o⟩

theorem Pen.push {K : PySem.W.Frag} {H : Hp} {d D : Addr} {k : Nat} {acc : List V} {z : Int} (h : Pen K H d k) (e : H D = some (.lst acc)) : Pen K (upd H D (.lst (acc ++ [.int z]))) d k := by
  obtain ⟨c, ns, at_, dg, ct, fo, h1, h2, a0, a1, r⟩ := h.ex
  have hd : d ≠ D := fun q => by
    rw [q, e] at h1
    cases h1
  have hd1 : (upd H D (.lst (acc ++ [.int z]))) d = some (.dK (penK c at_ dg ct fo)) := by rw [upd_ne hd]; exact h1
  rcases h2 with h2 | h2
  · by_cases hc : c = D
    · subst hc
      have en : acc = ns.map V.int := by
        rcases h2 with h2 | ⟨o, h2⟩
        · rw [e] at h2
          exact HO.lst.inj (Option.some.inj h2)
        · rw [e] at h2
          cases h2
      refine ⟨c, ns ++ [z], at_, dg, ct, fo, hd1, sqL_at (by rw [upd_same, en, List.map_append]; rfl), a0, ?_, r⟩
      rw [List.length_append]
      omega
    · refine ⟨c, ns, at_, dg, ct, fo, hd1, ?_, a0, a1, r⟩
      rcases h2 with h2 | ⟨o, h2⟩
      · exact .inl (.inl (by rw [upd_ne hc]; exact h2))
      · exact .inl (.inr ⟨o, by rw [upd_ne hc]; exact h2⟩)
  · exact ⟨c, ns, at_, dg, ct, fo, hd1, .inr h2, a0, a1, r⟩
/-- a comprehension over a range whose items draw -/
theorem lcPen {K : PySem.W.Frag} {te : TE} {i : Nat} {σ : L2.St} {H1 : Hp} {Qd : Addr → Hp → Prop} {lo : Int} {n : Nat} {d : Addr} {k0 : Nat} (f : Int → Prop) (hn : n ≤ sizeLine) (hp : Pen K H1 d k0)
    (hs : ∀ (j : Nat) (H' : Hp) (Qy : VK), j < n → ND H1 H' → Pen K H' d (k0 + j) → (∀ (y : Int) H'', f y → ND H' H'' → Pen K H'' d (k0 + j + 1) → Qy (.int y) H'') → te (σ.set i (some (.int (lo + j)))) H' Qy)
    (hd : ∀ D H' (ns : List Int), H1 D = none → ND H1 H' → Pen K H' d (k0 + n) → H' D = some (.lst (ns.map V.int)) → ns.length = n → (∀ y ∈ ns, f y) → Qd D H') :
    ∀ D, H1 D = none → ∃ W : Nat → Nat → Hp → Prop, (∃ m, W 0 m (upd H1 D (.lst []))) ∧ ∀ k m H, W k m H →
      ((Itr lo n).stop k H ∧ Qd D H) ∨ ((Itr lo n).go k H ∧ ∃ Nx : Hp → Prop, (∀ H', Nx H' → ∃ m', m' < m ∧ W (k + 1) m' H') ∧ ∀ x H', (Itr lo n).yld k H x H' → gName i x (wipe σ [i]) H' fun σ2 H2 => wipe σ2 [i] = wipe σ [i] ∧ tYes σ2 H2 fun b H3 =>
        if b = true then te σ2 H3 fun y H4 => ∃ acc, H4 D = some (.lst acc) ∧ acc.length < sizeLine ∧ Nx (upd H4 D (.lst (acc ++ [y]))) else Nx H3) := by
  intro D hD
  refine lc_range (σ := σ) (vs := [i]) (H1 := H1) (D := D) (Qd := fun H => Qd D H) (fun k H => ND H1 H ∧ Pen K H d (k0 + k) ∧ ∃ ns : List Int, H D = some (.lst (ns.map V.int)) ∧ ns.length = k ∧ ∀ y ∈ ns, f y) ⟨Same.nd (same_upd hD), hp.same (same_upd hD), [], upd_same, rfl, fun y hy => by cases hy⟩ ?_ ?_
  · rintro k H hk ⟨s1, hpk, ns, e1, el, ef⟩
    refine ⟨wipe1 σ i _, ?_⟩
    rw [set1]
    unfold tYes
    dsimp only
    rw [if_pos rfl]
    refine hs k H _ hk s1 hpk fun y H4 fy s4 p4 => ⟨_, s4 _ _ e1 rfl, by rw [List.length_map]; omega, fun b o e h => ?_, p4.push (s4 _ _ e1 rfl), ns ++ [y], ?_, by rw [List.length_append, el]; rfl, fun z hz => ?_⟩
    · rw [upd_ne (ne_of_none e hD)]
      exact s4 _ _ (s1 b o e h) h
    · rw [upd_same, List.map_append]
      rfl
    · rcases List.mem_append.mp hz with q | q
      · exact ef z q
      · rw [List.mem_singleton.mp q]
        exact fy
  · rintro H ⟨s1, hpk, ns, e1, el, ef⟩
    exact hd D H ns hD s1 hpk e1 el ef
theorem listed_made {K : PySem.W.Frag} {C BR TM a : Addr} {ns : List Int} {n lo hi : Int} {H : Hp} {Q : VK} {E : XK} (ha : IntsAt K H a (ns ++ ns.take 2)) (hz : ns.length ≤ 100) (hin : ∀ y ∈ ns, n - 30 ≤ y ∧ y ≤ n + 29) (l2 : ∀ y ∈ ns ++ [n], lo ≤ y) (h2 : ∀ y ∈ ns ++ [n], y ≤ hi)
    (mk : Made K C (SF lo false (trs ns lo (hi - lo + 1).toNat) false) H Q) : spListed K C BR TM [.ref a] H Q E := by
  have mem : ∀ y, y ∈ ns ++ ns.take 2 ↔ y ∈ ns := fun y => ⟨fun z => (List.mem_append.mp z).elim id List.mem_of_mem_take, fun z => List.mem_append_left _ z⟩
  refine ⟨_, rfl, .inl ⟨a, ns ++ ns.take 2, rfl, ha, ?_, fun e F p H' hF s hR => mk F p H' ?_ s hR, fun lo2 hi2 m1 m2 b1 b2 => ⟨fun z => ?_, fun _ F p H' hF s hR => mk F p H' ?_ s hR⟩⟩⟩
  · rw [List.length_append, List.length_take]
    exact Nat.le_trans (show _ ≤ 200 by omega) (by decide)
  · have e2 : ns = [] := (List.append_eq_nil_iff.mp e).1
    subst e2
    exact sf_listed0 hF
  · have := hin _ ((mem _).mp m1)
    have := hin _ ((mem _).mp m2)
    omega
  · exact sf_listed mem ((mem _).mp m1) ((mem _).mp m2) (fun y hy => ⟨b1 y ((mem y).mpr hy), b2 y ((mem y).mpr hy)⟩) (l2 _ (List.mem_append_left _ ((mem _).mp m1))) (h2 _ (List.mem_append_left _ ((mem _).mp m2))) hF
theorem all8 {K : PySem.W.Frag} {C lp t1 t2 t3 t4 t5 t6 t7 t8 : Addr} {H : Hp} (n : H lp = none) (o1 : PairOk K C H (.ref t1)) (o2 : PairOk K C H (.ref t2)) (o3 : PairOk K C H (.ref t3)) (o4 : PairOk K C H (.ref t4)) (o5 : PairOk K C H (.ref t5)) (o6 : PairOk K C H (.ref t6)) (o7 : PairOk K C H (.ref t7)) (o8 : PairOk K C H (.ref t8)) :
    ∀ x ∈ ([.ref t1, .ref t2, .ref t3, .ref t4, .ref t5, .ref t6, .ref t7, .ref t8] : List V), PairOk K C (upd H lp (.lst [.ref t1, .ref t2, .ref t3, .ref t4, .ref t5, .ref t6, .ref t7, .ref t8])) x := fun x hx => by
  have wl := Same.kp (same_upd (o := .lst [.ref t1, .ref t2, .ref t3, .ref t4, .ref t5, .ref t6, .ref t7, .ref t8]) n)
  simp only [List.mem_cons, List.not_mem_nil, or_false] at hx
  rcases hx with rfl | rfl | rfl | rfl | rfl | rfl | rfl | rfl
  · exact o1.kp wl
  · exact o2.kp wl
  · exact o3.kp wl
  · exact o4.kp wl
  · exact o5.kp wl
  · exact o6.kp wl
  · exact o7.kp wl
  · exact o8.kp wl
def spMakes (K : PySem.W.Frag) (TT : List (Addr × Str)) : Sp := fun vs H Q _ => ∃ (d : Addr) (k : Nat), vs = [.ref d] ∧ k ≤ 500000 ∧ Pen K H d k ∧ LamX.Tabs TT H ∧ ∀ H', KP H H' → Pen K H' d (k + 60) → LamX.Tabs TT H' → Q (.bl true) H'
section
variable {P : Program} {w : World} {K : PySem.W.Frag} {mg : Str → Option Value} {base : Heap}
theorem ok_makes {C BN BR TM : Addr} {TT : List (Addr × Str)} (h : Has K mg "_law_makes" s_law_makes) (T : Tx K mg) (R : RC K mg C) (DN : Df P w K mg base 4 "_law_number" ["_law_pen_here"] (spNumber K)) (DD : Df P w K mg base 1 "_law_draw" ["_law_pen_here", "_law_many"] (spDraw K)) (DP : Df P w K mg base 2 "_law_pick" ["_law_pen_here", "_law_some"] (spPick K))
    (DL : Df P w K mg base 3 "_law_listed" ["_law_pen_here", "_law_row"] (spListedL K)) (DO : Df P w K mg base 5 "_law_is_one_form" ["_law_one", "_law_told_here"] (spIsOne K C TT)) (M0 : Df P w K mg base 6 "none" [] (spMk0 K C (SF 0 false [] false))) (M1 : Df P w K mg base 6 "all_counts" [] (spMk0 K C (SF 0 true [] true)))
    (M2 : Df P w K mg base 6 "just" ["n"] (spMk1 K C BN fun n => SF n false [true] false)) (M3 : Df P w K mg base 6 "at_least" ["n"] (spMk1 K C BN fun n => SF n false [] true)) (M4 : Df P w K mg base 6 "at_most" ["n"] (spMk1 K C BN fun n => SF (n + 1) true [] false))
    (M5 : Df P w K mg base 6 "every" ["m", "r"] (spEvery K C BN)) (M6 : Df P w K mg base 6 "between" ["low", "high"] (spBetween K C BN TM)) (M7 : Df P w K mg base 7 "listed" ["row"] (spListed K C BR TM)) : Df P w K mg base 8 "_law_makes" ["_law_pen_here"] (spMakes K TT) := by
  refine h.df c_law_makes (fun _ _ _ _ _ _ us hl => match us, hl with | [_], _ => rfl) (fun vs H Q E ⟨_, _, e, _⟩ => by rw [e]; rfl) fun f cdv A outer s H vs Q E hr hs => ?_
  obtain ⟨d, k, rfl, hk, hp, hTT, q⟩ := hs
  have hr1 := hr.mono (show 1 ≤ 7 by decide)
  have hr2 := hr.mono (show 2 ≤ 7 by decide)
  have hr3 := hr.mono (show 3 ≤ 7 by decide)
  have hr4 := hr.mono (show 4 ≤ 7 by decide)
  have hr5 := hr.mono (show 5 ≤ 7 by decide)
  have hr6 := hr.mono (show 6 ≤ 7 by decide)
  refine ⟨_, (pss_cons (ps_asg (pe_tup (pa_cons (pe_df DN hr4 passL (by rfl) (pa_cons (pv 0) pa_nil)) (pa_cons (pe_op op_add pe_int (pe_df DD hr1 passL (by rfl) (pa_cons (pv 0) (pa_cons (pe_df DP hr2 passL (by rfl) (pa_cons (pv 0) (pa_cons (pe_lst (pa_cons pe_int (pa_cons pe_int (pa_cons pe_int pa_nil)))) pa_nil))) pa_nil)))) (pa_cons (pe_df DN hr4 passL (by rfl) (pa_cons (pv 0) pa_nil)) pa_nil)))) (pg_tup rfl (pgs_cons (pg_name (i := 1) c_law_makes.nd rfl (.inr rfl)) (pgs_cons (pg_name (i := 2) c_law_makes.nd rfl (.inr rfl)) (pgs_cons (pg_name (i := 3) c_law_makes.nd rfl (.inr rfl)) pgs_nil)))))
    (pss_cons (ps_set (i := 4) c_law_makes.nd rfl (.inl rfl) (pe_op op_sub (pe_op op_add (pv 1) (pe_df DD hr1 passL (by rfl) (pa_cons (pv 0) (pa_cons pe_int pa_nil)))) pe_int))
    (pss_cons (ps_set (i := 5) c_law_makes.nd rfl (.inr rfl) (pe_lc (own := [("_law_k", 13)]) (g := gName 13) (tt := tYes) rfl c_law_makes.nd (pi_rg1 (by rfl) T.range (pa_cons (pe_df DD hr1 passL (by rfl) (pa_cons (pv 0) (pa_cons pe_int pa_nil))) pa_nil)) (blkOk_by (N := n_law_makes) (sc := defScope s_law_makes) (by decide +kernel)) (fun _ _ _ _ _ => pg_name (i := 13) c_law_makes.nd rfl (Or.inl rfl)) (fun _ _ _ _ _ => pts_nil) (fun _ _ _ _ _ => (pe_op op_sub (pe_op op_add (pv 1) (pe_df DD hr1 passL (by rfl) (pa_cons (pv 0) (pa_cons pe_int pa_nil)))) pe_int))))
    (pss_cons (ps_set (i := 6) c_law_makes.nd rfl (.inl rfl) (pe_df DL hr3 passL (by rfl) (pa_cons (pv 0) (pa_cons (pe_op op_cat (pv 5) (pe_slice sl_list (pv 5) po_none (po_some pe_int))) pa_nil))))
    (pss_cons (ps_set (i := 7) c_law_makes.nd rfl (.inl rfl) (pe_callTy (tupS (K := K) rfl) (by rfl) T.tuple boot_tuple (pa_cons (pe_lc (own := [("_law_k", 13)]) (g := gName 13) (tt := tYes) rfl c_law_makes.nd (pi_rg1 (by rfl) T.range (pa_cons (pv 2) pa_nil)) (blkOk_by (N := n_law_makes) (sc := defScope s_law_makes) (by decide +kernel)) (fun _ _ _ _ _ => pg_name (i := 13) c_law_makes.nd rfl (Or.inl rfl)) (fun _ _ _ _ _ => pts_nil) (fun _ _ _ _ _ => (pe_cmpR op_eq (pe_op op_mod (pe_callTy call_int1 (by rfl) T.int boot_int (pa_cons (pe_op op_sub (pv 13) (pv 3)) pa_nil)) (pv 2)) pe_int (nomark _)))) pa_nil)))
    (pss_cons (ps_set (i := 8) c_law_makes.nd rfl (.inl rfl) (pe_callB (cr_minS rfl hr) (by rfl) T.min boot_min (pa_cons (pe_op op_cat (pv 5) (pe_lst (pa_cons (pv 1) pa_nil))) pa_nil)))
    (pss_cons (ps_set (i := 9) c_law_makes.nd rfl (.inl rfl) (pe_callTy (tupS (K := K) rfl) (by rfl) T.tuple boot_tuple (pa_cons (pe_lc (own := [("_law_k", 13)]) (g := gName 13) (tt := tYes) rfl c_law_makes.nd (pi_rg2 (by rfl) T.range (pa_cons (pv 8) (pa_cons (pe_op op_add (pe_callB (cr_maxS rfl hr) (by rfl) T.max boot_max (pa_cons (pe_op op_cat (pv 5) (pe_lst (pa_cons (pv 1) pa_nil))) pa_nil)) pe_int) pa_nil))) (blkOk_by (N := n_law_makes) (sc := defScope s_law_makes) (by decide +kernel)) (fun _ _ _ _ _ => pg_name (i := 13) c_law_makes.nd rfl (Or.inl rfl)) (fun _ _ _ _ _ => pts_nil) (fun _ _ _ _ _ => (pe_cmpR (inS (K := K) rfl) (pv 13) (pv 5) rfl))) pa_nil)))
    (pss_cons (ps_set (i := 10) c_law_makes.nd rfl (.inl rfl) (pe_lst (pa_cons (pe_tup (pa_cons (pe_df0 M0 hr6 passL (by rfl)) (pa_cons (pe_tup (pa_cons pe_int (pa_cons (pe_tup (pa_cons pe_bl pa_nil)) (pa_cons (pe_tup pa_nil) (pa_cons (pe_tup (pa_cons pe_bl pa_nil)) pa_nil))))) pa_nil))) (pa_cons (pe_tup (pa_cons (pe_df0 M1 hr6 passL (by rfl)) (pa_cons (pe_tup (pa_cons pe_int (pa_cons (pe_tup (pa_cons pe_bl pa_nil)) (pa_cons (pe_tup pa_nil) (pa_cons (pe_tup (pa_cons pe_bl pa_nil)) pa_nil))))) pa_nil))) (pa_cons (pe_tup (pa_cons (pe_df M2 hr6 passL (by rfl) (pa_cons (pv 1) pa_nil)) (pa_cons (pe_tup (pa_cons (pv 1) (pa_cons (pe_tup (pa_cons pe_bl pa_nil)) (pa_cons (pe_tup (pa_cons pe_bl pa_nil)) (pa_cons (pe_tup (pa_cons pe_bl pa_nil)) pa_nil))))) pa_nil))) (pa_cons (pe_tup (pa_cons (pe_df M3 hr6 passL (by rfl) (pa_cons (pv 1) pa_nil)) (pa_cons (pe_tup (pa_cons (pv 1) (pa_cons (pe_tup (pa_cons pe_bl pa_nil)) (pa_cons (pe_tup pa_nil) (pa_cons (pe_tup (pa_cons pe_bl pa_nil)) pa_nil))))) pa_nil))) (pa_cons (pe_tup (pa_cons (pe_df M4 hr6 passL (by rfl) (pa_cons (pv 1) pa_nil)) (pa_cons (pe_tup (pa_cons (pe_op op_add (pv 1) pe_int) (pa_cons (pe_tup (pa_cons pe_bl pa_nil)) (pa_cons (pe_tup pa_nil) (pa_cons (pe_tup (pa_cons pe_bl pa_nil)) pa_nil))))) pa_nil))) (pa_cons (pe_tup (pa_cons (pe_df M5 hr6 passL (by rfl) (pa_cons (pv 2) (pa_cons (pv 3) pa_nil))) (pa_cons (pe_tup (pa_cons pe_int (pa_cons (pv 7) (pa_cons (pe_tup pa_nil) (pa_cons (pv 7) pa_nil))))) pa_nil))) (pa_cons (pe_tup (pa_cons (pe_df M6 hr6 passL (by rfl) (pa_cons (pv 1) (pa_cons (pv 4) pa_nil))) (pa_cons (pe_tup (pa_cons (pv 1) (pa_cons (pe_tup (pa_cons pe_bl pa_nil)) (pa_cons (pe_op op_mulQ (pe_tup (pa_cons pe_bl pa_nil)) (pe_callB (call_max2 rfl) (by rfl) T.max boot_max (pa_cons pe_int (pa_cons (pe_op op_add (pe_op op_sub (pv 4) (pv 1)) pe_int) pa_nil)))) (pa_cons (pe_tup (pa_cons pe_bl pa_nil)) pa_nil))))) pa_nil))) (pa_cons (pe_tup (pa_cons (pe_df M7 hr passL (by rfl) (pa_cons (pv 6) pa_nil)) (pa_cons (pe_tup (pa_cons (pv 8) (pa_cons (pe_tup (pa_cons pe_bl pa_nil)) (pa_cons (pv 9) (pa_cons (pe_tup (pa_cons pe_bl pa_nil)) pa_nil))))) pa_nil))) pa_nil))))))))))
    (pss_cons (ps_for (passes_of rfl) rfl (piL (K := K) rfl (pv 10)) (pg_tup rfl (pgs_cons (pg_name (i := 11) c_law_makes.nd rfl (.inl rfl)) (pgs_cons (pg_name (i := 12) c_law_makes.nd rfl (.inl rfl)) pgs_nil))) (pss_one (ps_if (PW.pt (pw_or (pt_not (pt_val (pe_callB (call_isi) (by rfl) T.isinstance boot_isinstance (pa_cons (pv 11) (pa_cons (pe_glob (v := .ref C) (by rfl) R.at_ rfl) pa_nil))))) (pw_or1 (pt_not (pt_val (pe_df DO hr5 passL (by rfl) (pa_cons (pv 11) (pa_cons (pv 12) pa_nil)))))))) (pss_one (ps_ret pe_bl)) pss_nil)))
    (pss_one (ps_ret (pe_cmpR (op_eqD hr.units) (pe_callTy call_list_of (by rfl) T.list boot_list (pa_cons (pv 6) pa_nil)) (pe_op op_cat (pv 5) (pe_slice sl_list (pv 5) po_none (po_some pe_int))) (nomark _))))))))))))), ?_⟩
  -- the three numbers
  refine ⟨_, rfl, d, k, rfl, by omega, hp, fun n H1 d1 p1 => ⟨_, rfl, _, rfl, (by show 3 ≤ sizeLine; decide), fun l nl => ?_⟩⟩
  have s1 := same_upd (o := .lst [.int 1, .int 4, .int 40]) nl
  refine ⟨d, l, _, k + 18, rfl, sqL_new, (by simp), (by show 3 ≤ 1000000; decide), by omega, p1.same s1, fun j x H2 hj d2 p2 => ?_⟩
  obtain ⟨many, hm0, hm1, rfl⟩ : ∃ m : Nat, 0 < m ∧ m ≤ 40 ∧ x = .int m := by
    match j, hj with
    | 0, e => exact ⟨1, by decide, by decide, (Option.some.inj e).symm⟩
    | 1, e => exact ⟨4, by decide, by decide, (Option.some.inj e).symm⟩
    | 2, e => exact ⟨40, by decide, by decide, (Option.some.inj e).symm⟩
    | j + 3, e => simp at e
  refine ⟨d, many, k + 19, rfl, hm0, by omega, by omega, p2, fun m0 H3 hm3 d3 p3 => ⟨_, _, rfl, rfl, ?_⟩⟩
  refine ⟨_, rfl, d, k + 20, rfl, by omega, p3, fun r H4 d4 p4 => ⟨(by show 3 ≤ sizeLine; decide), fun p5 n5 => ⟨p5, _, rfl, sqT_new, rfl, _, _, rfl, _, _, rfl, _, _, rfl, rfl, ?_⟩⟩⟩
  have s5 := same_upd (o := .tup [.int n, .int (1 + (m0 : Int)), .int r]) n5
  have d05 := d1.trans ((Same.nd s1).trans (d2.trans (d3.trans (d4.trans (Same.nd s5)))))
  have p5' := p4.same s5
  generalize upd H4 p5 (.tup [.int n, .int (1 + (m0 : Int)), .int r]) = H5 at d05 p5'
  obtain ⟨m, hm⟩ : ∃ m : Nat, m = m0 + 1 := ⟨_, rfl⟩
  have hmI : (1 : Int) + (m0 : Int) = (m : Int) := by omega
  have hmpos : 0 < m := by omega
  have hm40 : m ≤ 40 := by omega
  -- high
  refine ⟨_, rfl, _, rfl, d, 40, k + 38, rfl, by decide, by decide, by omega, p5', fun h0 H6 hh0 d6 p6 => ⟨_, _, rfl, rfl, _, _, rfl, rfl, ?_⟩⟩
  have d06 := d05.trans d6
  -- the row
  refine ⟨_, rfl, d, 9, k + 39, rfl, by decide, by decide, by omega, p6, fun len H7 hlen d7 p7 => ⟨_, rfl, ?_⟩⟩
  have d07 := d06.trans d7
  rw [Int.toNat_natCast]
  refine lcPen (K := K) (d := d) (k0 := k + 40) (fun y => n - 30 ≤ y ∧ y ≤ n + 29) (by show len ≤ _; exact Nat.le_trans (Nat.le_of_lt hlen) (by decide)) p7 (fun j H' Qy hj d8 p8 qy => ?_) fun L H8 ns nL d8 p8 eL hns hin => ?_
  · refine ⟨_, rfl, _, rfl, d, 60, k + 40 + j, rfl, by decide, by decide, by omega, p8, fun x H'' hx d9 p9 => ⟨_, _, rfl, rfl, _, _, rfl, rfl, ?_⟩⟩
    exact qy _ H'' ⟨by omega, by omega⟩ d9 p9
  have d08 := d07.trans d8
  -- the row is passed on
  refine ⟨_, rfl, _, rfl, _, rfl, 2, rfl, L, _, rfl, sqL_at eL, fun q1 nq1 => ?_⟩
  have s9 := same_upd (o := .lst (cutV (ns.map V.int) none (some 2))) nq1
  have ecut : cutV (ns.map V.int) none (some 2) = (ns.take 2).map V.int := by
    rw [show (2 : Int) = ((2 : Nat) : Int) from rfl, cut_to, List.map_take]
  refine ⟨L, q1, _, _, rfl, rfl, s9 _ _ eL, upd_same, (by rw [ecut, List.length_map, List.length_map, List.length_take]; show _ ≤ 16777216; omega), fun q2 nq2 => ?_⟩
  have hcat : ns.map V.int ++ cutV (ns.map V.int) none (some 2) = (ns ++ ns.take 2).map V.int := by rw [ecut, List.map_append]
  rw [hcat]
  have s10 := s9.trans (same_upd (o := .lst ((ns ++ ns.take 2).map V.int)) nq2)
  have l10 : (upd (upd H8 q1 (.lst (cutV (ns.map V.int) none (some 2)))) q2 (.lst ((ns ++ ns.take 2).map V.int))) q2 = some (.lst ((ns ++ ns.take 2).map V.int)) := upd_same
  generalize upd (upd H8 q1 (.lst (cutV (ns.map V.int) none (some 2)))) q2 (.lst ((ns ++ ns.take 2).map V.int)) = H10 at s10 l10
  refine ⟨d, q2, ns ++ ns.take 2, k + 40 + len, rfl, sqL_at l10, by omega, p8.same s10, fun pa H11 hpa d11 p11 => ?_⟩
  have d011 := d08.trans ((Same.nd s10).trans d11)
  have eL11 := d11 _ _ (s10 _ _ eL) rfl
  -- the word
  refine ⟨_, rfl, _, rfl, ?_⟩
  rw [show (1 + (m0 : Int)).toNat = m by omega]
  refine lcR (i := 13) (fun j => .bl (decide ((0 + (j : Int) - r) % (m : Int) = 0))) (row_line (by omega)) (fun j H' Qy hj s12 qy => ?_) fun Lw H12 n12 s12 l12 => ?_
  · refine ⟨_, rfl, _, rfl, _, _, rfl, rfl, .inl ⟨_, rfl, _, rfl, _, _, rfl, rfl, (by show (0 : Int) < 1 + (m0 : Int); omega), ?_⟩⟩
    rw [hmI]
    refine ⟨rfl, ?_⟩
    rw [show decide (V.int ((0 + (j : Int) - r) % (m : Int)) = V.int 0) = decide ((0 + (j : Int) - r) % (m : Int) = 0) from decide_eq_decide.mpr ⟨fun z => V.int.inj z, fun z => congrArg V.int z⟩]
    exact qy H' (Same.refl H')
  rw [word_hot hmpos] at l12
  refine ⟨Lw, _, rfl, .inl (sqL_at l12), fun pw H13 s13 t13 => ?_⟩
  have s123 := s12.trans s13
  have d013 := d011.trans (Same.nd s123)
  have eL13 := s123 _ _ eL11
  -- the least and the greatest
  refine ⟨_, rfl, _, rfl, (by show 1 ≤ sizeLine; decide), fun q3 nq3 => ?_⟩
  have s14 := same_upd (o := .lst [.int n]) nq3
  refine ⟨L, q3, _, _, rfl, rfl, s14 _ _ eL13, upd_same, (by rw [List.length_map]; show ns.length + 1 ≤ 16777216; omega), fun q4 nq4 => ?_⟩
  have s15 := s14.trans (same_upd (o := .lst (ns.map V.int ++ [.int n])) nq4)
  have l15 : (upd (upd H13 q3 (.lst [.int n])) q4 (.lst (ns.map V.int ++ [.int n]))) q4 = some (.lst ((ns ++ [n]).map V.int)) := by rw [upd_same, List.map_append]; rfl
  generalize upd (upd H13 q3 (.lst [.int n])) q4 (.lst (ns.map V.int ++ [.int n])) = H15 at s15 l15
  refine ⟨q4, ns ++ [n], rfl, .inl (sqL_at l15), (by simp), fun lo lo1 lo2 => ?_⟩
  have eL15 := s15 _ _ eL13
  refine ⟨_, rfl, _, rfl, _, rfl, (by show 1 ≤ sizeLine; decide), fun q5 nq5 => ?_⟩
  have s16 := same_upd (o := .lst [.int n]) nq5
  refine ⟨L, q5, _, _, rfl, rfl, s16 _ _ eL15, upd_same, (by rw [List.length_map]; show ns.length + 1 ≤ 16777216; omega), fun q6 nq6 => ?_⟩
  have s17 := s16.trans (same_upd (o := .lst (ns.map V.int ++ [.int n])) nq6)
  have l17 : (upd (upd H15 q5 (.lst [.int n])) q6 (.lst (ns.map V.int ++ [.int n]))) q6 = some (.lst ((ns ++ [n]).map V.int)) := by rw [upd_same, List.map_append]; rfl
  generalize upd (upd H15 q5 (.lst [.int n])) q6 (.lst (ns.map V.int ++ [.int n])) = H17 at s17 l17
  refine ⟨q6, ns ++ [n], rfl, .inl (sqL_at l17), (by simp), fun hi hi1 hi2 => ⟨_, _, rfl, rfl, ?_⟩⟩
  have eL17 := s17 _ _ eL15
  have lon : lo ≤ n := lo2 n (by simp)
  have nhi : n ≤ hi := hi2 n (by simp)
  have lob : n - 30 ≤ lo := by
    rcases List.mem_append.mp lo1 with z | z
    · exact (hin lo z).1
    · rw [List.mem_singleton.mp z]; omega
  have hib : hi ≤ n + 29 := by
    rcases List.mem_append.mp hi1 with z | z
    · exact (hin hi z).2
    · rw [List.mem_singleton.mp z]; omega
  refine ⟨_, _, rfl, ?_⟩
  rw [show (hi + 1 - lo).toNat = (hi - lo + 1).toNat by omega]
  refine lcR (i := 13) (fun j => .bl (decide (lo + (j : Int) ∈ ns))) (row_line (by omega)) (fun j H' Qy hj s18 qy => ?_) fun Lt H18 n18 s18 l18 => ?_
  · refine ⟨_, rfl, _, rfl, L, _, rfl, .inl (sqL_at (s18 _ _ eL17)), rfl, ints_flat ns, ?_⟩
    show Qy (.bl (inV (.int (lo + (j : Int))) (ns.map V.int))) H'
    rw [inV_int]
    exact qy H' (Same.refl H')
  have l18' : H18 Lt = some (.lst (bls (trs ns lo (hi - lo + 1).toNat))) := by
    rw [l18]
    unfold bls trs
    rw [List.map_map]
    rfl
  refine ⟨Lt, _, rfl, .inl (sqL_at l18'), fun pt H19 s19 t19 => ?_⟩
  have s13_19 := s15.trans (s17.trans (s18.trans s19))
  have d19 : ND H H19 := d013.trans (Same.nd s13_19)
  have eL19 := s13_19 _ _ eL13
  have tw19 := sqT_same t13 s13_19
  have p19 : Pen K H19 d (k + 50) := ((p11.same s123).same s13_19).le (by omega)
  have pa19 := ((hpa.same s123).same s13_19)
  have hTT19 := tabs_nd hTT d19
  clear l18 l18' l17 l15 l12 l10
  -- pair 1
  refine ⟨rfl, fun F1 r1 G1 hF1 u1 hR1 => ⟨(by show 1 ≤ sizeLine; decide), fun a1 m11 => ⟨(by show 0 ≤ sizeLine; decide), fun b1 m12 => ⟨(by show 1 ≤ sizeLine; decide), fun c1 m13 => ⟨(by show 4 ≤ sizeLine; decide), fun e1 m14 => ⟨(by show 2 ≤ sizeLine; decide), fun t1 m15 => ?_⟩⟩⟩⟩⟩⟩
  have v1 := u1
  obtain ⟨w1, o1⟩ := pair_of 0 false false [] hR1 hF1 (by decide) m11 m12 m13 m14 m15
  -- pair 2
  refine ⟨rfl, fun F2 r2 G2 hF2 u2 hR2 => ⟨(by show 1 ≤ sizeLine; decide), fun a2 m21 => ⟨(by show 0 ≤ sizeLine; decide), fun b2 m22 => ⟨(by show 1 ≤ sizeLine; decide), fun c2 m23 => ⟨(by show 4 ≤ sizeLine; decide), fun e2 m24 => ⟨(by show 2 ≤ sizeLine; decide), fun t2 m25 => ?_⟩⟩⟩⟩⟩⟩
  have v2 := (v1.trans w1).trans u2
  replace o1 := o1.kp (Same.kp u2)
  obtain ⟨w2, o2⟩ := pair_of 0 true true [] hR2 hF2 (by decide) m21 m22 m23 m24 m25
  -- pair 3
  refine ⟨_, rfl, _, _, rfl, .int n, fun n3 x3 F3 r3 G3 hF3 u3 hR3 => ⟨_, rfl, (by show 1 ≤ sizeLine; decide), fun a3 m31 => ⟨(by show 1 ≤ sizeLine; decide), fun b3 m32 => ⟨(by show 1 ≤ sizeLine; decide), fun c3 m33 => ⟨(by show 4 ≤ sizeLine; decide), fun e3 m34 => ⟨(by show 2 ≤ sizeLine; decide), fun t3 m35 => ?_⟩⟩⟩⟩⟩, fun z => (by cases z)⟩
  obtain rfl := PyData.int.inj x3
  have v3 := (v2.trans w2).trans u3
  replace o1 := o1.kp (Same.kp (w2.trans u3))
  replace o2 := o2.kp (Same.kp u3)
  obtain ⟨w3, o3⟩ := pair_of n false false [true] hR3 hF3 (by decide) m31 m32 m33 m34 m35
  -- pair 4
  refine ⟨_, rfl, _, _, rfl, .int n, fun n4 x4 F4 r4 G4 hF4 u4 hR4 => ⟨_, rfl, (by show 1 ≤ sizeLine; decide), fun a4 m41 => ⟨(by show 0 ≤ sizeLine; decide), fun b4 m42 => ⟨(by show 1 ≤ sizeLine; decide), fun c4 m43 => ⟨(by show 4 ≤ sizeLine; decide), fun e4 m44 => ⟨(by show 2 ≤ sizeLine; decide), fun t4 m45 => ?_⟩⟩⟩⟩⟩, fun z => (by cases z)⟩
  obtain rfl := PyData.int.inj x4
  have v4 := (v3.trans w3).trans u4
  replace o1 := o1.kp (Same.kp (w3.trans u4))
  replace o2 := o2.kp (Same.kp (w3.trans u4))
  replace o3 := o3.kp (Same.kp u4)
  obtain ⟨w4, o4⟩ := pair_of n false true [] hR4 hF4 (by decide) m41 m42 m43 m44 m45
  -- pair 5
  refine ⟨_, rfl, _, _, rfl, .int n, fun n5 x5 F5 r5 G5 hF5 u5 hR5 => ⟨_, rfl, _, _, rfl, rfl, (by show 1 ≤ sizeLine; decide), fun a5 m51 => ⟨(by show 0 ≤ sizeLine; decide), fun b5 m52 => ⟨(by show 1 ≤ sizeLine; decide), fun c5 m53 => ⟨(by show 4 ≤ sizeLine; decide), fun e5 m54 => ⟨(by show 2 ≤ sizeLine; decide), fun t5 m55 => ?_⟩⟩⟩⟩⟩, fun z => (by cases z)⟩
  obtain rfl := PyData.int.inj x5
  have v5 := (v4.trans w4).trans u5
  replace o1 := o1.kp (Same.kp (w4.trans u5))
  replace o2 := o2.kp (Same.kp (w4.trans u5))
  replace o3 := o3.kp (Same.kp (w4.trans u5))
  replace o4 := o4.kp (Same.kp u5)
  obtain ⟨w5, o5⟩ := pair_of (n + 1) true false [] hR5 hF5 (by decide) m51 m52 m53 m54 m55
  -- pair 6
  refine ⟨_, rfl, _, rfl, _, _, _, _, rfl, .int _, .int _, fun z => (by cases z), fun m' x6 z => ?_, fun m' x6 _ _ => ⟨fun z => (by cases z), fun r' y6 r6 G6 u6 hR6 => ⟨_, rfl, (by show 0 ≤ sizeLine; decide), fun b6 m62 => ⟨_, rfl, (by show 4 ≤ sizeLine; decide), fun e6 m64 => ⟨(by show 2 ≤ sizeLine; decide), fun t6 m65 => ?_⟩⟩⟩⟩⟩
  · obtain rfl := PyData.int.inj x6
    exact absurd (show 1 ≤ 1 + (m0 : Int) ∧ 1 + (m0 : Int) ≤ 20000 by omega) z
  have x6 : 1 + (m0 : Int) = (m' : Int) := PyData.int.inj x6
  obtain rfl : m = m' := by omega
  obtain rfl := PyData.int.inj y6
  have v6 := (v5.trans w5).trans u6
  replace o1 := o1.kp (Same.kp (w5.trans u6))
  replace o2 := o2.kp (Same.kp (w5.trans u6))
  replace o3 := o3.kp (Same.kp (w5.trans u6))
  replace o4 := o4.kp (Same.kp (w5.trans u6))
  replace o5 := o5.kp (Same.kp u6)
  have k6 := same_upd (o := .tup []) m62
  have k6' := k6.trans (same_upd (o := .tup [.int 0, .ref pw, .ref b6, .ref pw]) m64)
  have hrm : (r % (m : Int)).toNat < m := by
    have h1 := Int.emod_lt_of_pos r (show (0 : Int) < m by omega)
    omega
  obtain ⟨w6', o6⟩ := pair_fin (hR6.same k6') (.inr ⟨hot m (r % (m : Int)).toNat, ⟨pw, b6, pw, sqT_new, sqT_same tw19 (v6.trans k6'), sqT_same sqT_new (same_upd m64), sqT_same tw19 (v6.trans k6')⟩, hot_ne hmpos, (by rw [lstep_hot hrm, hot_length]), (by rw [hot_length]; omega), rfl⟩) m65 (by show (hot m _).length ≤ _; rw [hot_length]; omega) (Nat.zero_le _) (by show (hot m _).length ≤ _; rw [hot_length]; omega)
  have w6 := k6'.trans w6'
  -- pair 7
  refine ⟨_, rfl, _, rfl, _, _, _, _, rfl, .int _, .int _, fun z => (by cases z), fun _ z => (by cases z), fun lo7 hi7 x7 y7 => ⟨fun z => ?_, fun _ F7 r7 G7 hF7 u7 hR7 => ⟨_, rfl, (by show 1 ≤ sizeLine; decide), fun a7 m71 => ⟨(by show 1 ≤ sizeLine; decide), fun b7 m72 => ⟨_, rfl, _, rfl, _, _, rfl, rfl, _, _, rfl, rfl, _, _, rfl, ?_⟩⟩⟩⟩⟩
  · obtain rfl := PyData.int.inj x7
    obtain rfl := PyData.int.inj y7
    unfold manyN at z
    omega
  obtain rfl := PyData.int.inj x7
  obtain rfl := PyData.int.inj y7
  have v7 := (v6.trans w6).trans u7
  replace o1 := o1.kp (Same.kp (w6.trans u7))
  replace o2 := o2.kp (Same.kp (w6.trans u7))
  replace o3 := o3.kp (Same.kp (w6.trans u7))
  replace o4 := o4.kp (Same.kp (w6.trans u7))
  replace o5 := o5.kp (Same.kp (w6.trans u7))
  replace o6 := o6.kp (Same.kp u7)
  have k7 := (same_upd (o := .tup [.bl false]) m71).trans (same_upd (o := .tup [.bl true]) m72)
  have hkk : (if n + (h0 : Int) - 9 - n + 1 > 0 then n + (h0 : Int) - 9 - n + 1 else 0) ≤ 31 := by
    split <;> omega
  have hkk0 : 0 ≤ (if n + (h0 : Int) - 9 - n + 1 > 0 then n + (h0 : Int) - 9 - n + 1 else 0) := by
    split <;> omega
  have hkn : (if n + (h0 : Int) - 9 - n + 1 > 0 then n + (h0 : Int) - 9 - n + 1 else 0).toNat = manyN n (n + (h0 : Int) - 9) := by
    unfold manyN
    split <;> omega
  refine ⟨b7, _, [.bl true], rfl, rfl, sqT_new, by simp, (by show 1 ≤ 1000; decide), by omega, (by show (1 : Int) * _ ≤ _; omega), by omega, fun b7 X7 kx tx => ⟨(by show 1 ≤ sizeLine; decide), fun c7 m73 => ⟨(by show 4 ≤ sizeLine; decide), fun e7 m74 => ⟨(by show 2 ≤ sizeLine; decide), fun t7 m75 => ?_⟩⟩⟩⟩
  rw [hkn, show [V.bl true] = bls [true] from rfl, rep_flat] at tx
  have k7c := same_upd (o := .tup [.bl false]) m73
  have k7e := same_upd (o := .tup [.int n, .ref a7, .ref b7, .ref c7]) m74
  have k7' := k7.trans (kx.trans (k7c.trans k7e))
  have mk7 : manyN n (n + (h0 : Int) - 9) ≤ 31 := by
    unfold manyN
    omega
  have hz7 := sf_size hF7
  rw [List.length_replicate] at hz7
  obtain ⟨w7', o7⟩ := pair_fin (hR7.same k7') (.inl ⟨n, false, List.replicate (manyN n (n + (h0 : Int) - 9)) true, false, ⟨a7, b7, c7, sqT_new, sqT_same sqT_new ((same_upd m72).trans (kx.trans (k7c.trans k7e))), sqT_same tx (k7c.trans k7e), sqT_same sqT_new k7e⟩, (by rw [List.length_replicate]; omega), hF7⟩) m75 (by omega) (by omega) (by omega)
  have w7 := k7'.trans w7'
  -- pair 8
  have pa7 : IntsAt K _ pa (ns ++ ns.take 2) := pa19.same (v7.trans w7)
  refine ⟨_, rfl, listed_made pa7 (by omega) hin lo2 hi2 fun F8 r8 G8 hF8 u8 hR8 => ⟨_, rfl, (by show 1 ≤ sizeLine; decide), fun a8 m81 => ⟨_, rfl, (by show 1 ≤ sizeLine; decide), fun c8 m83 => ⟨(by show 4 ≤ sizeLine; decide), fun e8 m84 => ⟨(by show 2 ≤ sizeLine; decide), fun t8 m85 => ?_⟩⟩⟩⟩⟩
  have v8 := (v7.trans w7).trans u8
  replace o1 := o1.kp (Same.kp (w7.trans u8))
  replace o2 := o2.kp (Same.kp (w7.trans u8))
  replace o3 := o3.kp (Same.kp (w7.trans u8))
  replace o4 := o4.kp (Same.kp (w7.trans u8))
  replace o5 := o5.kp (Same.kp (w7.trans u8))
  replace o6 := o6.kp (Same.kp (w7.trans u8))
  replace o7 := o7.kp (Same.kp u8)
  have k8c := same_upd (o := .tup [.bl false]) m83
  have k8e := same_upd (o := .tup [.int lo, .ref a8, .ref pt, .ref c8]) m84
  have k8' := (same_upd (o := .tup [.bl false]) m81).trans (k8c.trans k8e)
  have hz8 := sf_size hF8
  rw [trs_length] at hz8
  obtain ⟨w8', o8⟩ := pair_fin (hR8.same k8') (.inl ⟨lo, false, trs ns lo (hi - lo + 1).toNat, false, ⟨a8, pt, c8, sqT_new, sqT_same sqT_new (k8c.trans k8e), sqT_same t19 (v8.trans k8'), sqT_same sqT_new k8e⟩, (by rw [trs_length]; omega), hF8⟩) m85 (by omega) (by omega) (by omega)
  have w8 := k8'.trans w8'
  replace o1 := o1.kp (Same.kp w8)
  replace o2 := o2.kp (Same.kp w8)
  replace o3 := o3.kp (Same.kp w8)
  replace o4 := o4.kp (Same.kp w8)
  replace o5 := o5.kp (Same.kp w8)
  replace o6 := o6.kp (Same.kp w8)
  replace o7 := o7.kp (Same.kp w8)
  have v9 := v8.trans w8
  refine ⟨(by show 8 ≤ sizeLine; decide), fun lp nlp => ?_⟩
  have wl := same_upd (o := .lst [.ref t1, .ref t2, .ref t3, .ref t4, .ref t5, .ref t6, .ref t7, .ref t8]) nlp
  have all := all8 nlp o1 o2 o3 o4 o5 o6 o7 o8
  have v10 := v9.trans wl
  refine ⟨_, rfl, lp, rfl, ⟨_, sqL_at upd_same⟩, for_list (K := K) (a := lp) (xs := [.ref t1, .ref t2, .ref t3, .ref t4, .ref t5, .ref t6, .ref t7, .ref t8]) (fun i σ H' => NT _ H' ∧ LamX.Tabs TT H' ∧ ∃ z11 z12 z13 : Option V, σ = [some (.ref d), some (.int n), some (.int (1 + (m0 : Int))), some (.int r), some (.int (n + (h0 : Int) - 9)), some (.ref L), some (.ref pa), some (.ref pw), some (.int lo), some (.ref pt), some (.ref lp), z11, z12, z13])
    ⟨NT.refl _, hTT19.ext v10, _, _, _, rfl⟩ (fun i σ H' _ hp => sqL_kp (sqL_at upd_same) (NT.kp hp.1)) ?_ ?_⟩
  · rintro i x σ H' hx ⟨nt, tb, z11, z12, z13, rfl⟩
    obtain ⟨t, p, q', F, rfl, ht, hR, hT, y1, y2, y3⟩ := (all x (List.mem_of_getElem? hx)).kp (NT.kp nt)
    refine ⟨t, _, rfl, ht, rfl, _, _, rfl, _, _, rfl, rfl, ?_⟩
    refine ⟨_, rfl, .ref p, .ref C, _, _, true, rfl, .own C, R.isi hR, R.me, _, rfl, ?_⟩
    refine iteF ⟨_, rfl, _, rfl, p, F, q', rfl, hR, hT, y1, y2, y3, tb, fun H'' nt2 tb2 => ⟨_, rfl, ?_⟩⟩
    exact iteF ⟨nt.trans nt2, tb2, _, _, _, rfl⟩
  · rintro σ H' ⟨nt, tb, z11, z12, z13, rfl⟩
    have eL' := nt _ _ (v10 _ _ eL19) rfl
    have pa' : IntsAt K H' pa (ns ++ ns.take 2) := (pa19.same v10).kp (NT.kp nt)
    refine ⟨_, rfl, pa, _, rfl, pa', fun l1 n1 => ⟨_, rfl, _, rfl, 2, rfl, L, ns.map V.int, rfl, ?_, fun q1 nq1 => ?_⟩⟩
    · exact sqL_same (sqL_at eL') (same_upd n1)
    have x1 := same_upd (o := .lst ((ns ++ ns.take 2).map V.int)) n1
    have x2 := same_upd (o := .lst (cutV (ns.map V.int) none (some 2))) nq1
    refine ⟨L, q1, _, _, rfl, rfl, x2 _ _ (x1 _ _ eL'), upd_same, (by rw [ecut, List.length_map, List.length_map, List.length_take]; show _ ≤ 16777216; omega), fun q2 nq2 => ?_⟩
    have x3 := same_upd (o := .lst (ns.map V.int ++ cutV (ns.map V.int) none (some 2))) nq2
    refine ⟨_, _, .lst (sqL_same sqL_new (x2.trans x3)) (dpAll_ints (ns ++ ns.take 2)), .lst (sqL_at (by rw [upd_same, hcat])) (dpAll_ints (ns ++ ns.take 2)), ints_shaped _, ints_shaped _, ?_⟩
    rw [eqv_shaped (ints_shaped _)]
    have xx := x1.trans (x2.trans x3)
    refine q _ (d19.kp.trans ((Same.kp v10).trans ((NT.kp nt).trans (Same.kp xx)))) ?_ (tb.ext xx)
    exact ((((p19.same v10).nt nt).same xx).le (by omega))
end
end Rk
set_option maxHeartbeats 4000000
/-! The law's defs, eighth part: what a lambda comes to; _law_refuses. -/
namespace Rk
open PySem PySem.Spec PyProof.Rows L2

theorem tk_nil {N : List Str} {σ : L2.St} : Takes2 N [] σ 0 [] := fun i x v h => by simp at h
theorem tk_cons {N N' : List Str} {σ τ : L2.St} {x : Str} {v : V} (j : Nat) (h1 : N[j]? = some x) (h2 : σ[j]? = some (some v)) (h : Takes2 N N' σ 0 τ) : Takes2 N (x :: N') σ 0 (some v :: τ) := fun i y u e1 e2 => by
  match i, e1, e2 with
  | 0, e1, e2 =>
    have e1 : some x = some y := e1
    have e2 : some (some v) = some (some u) := e2
    obtain rfl := Option.some.inj e1
    obtain rfl := Option.some.inj (Option.some.inj e2)
    exact ⟨j, h1, h2⟩
  | i + 1, e1, e2 =>
    refine h i y u ?_ e2
    rw [Nat.zero_add]
    rw [Nat.zero_add] at e1
    exact e1
/-- a lambda of the frame X stands at f -/
def LamAt (X : Cx) (H : Hp) (f : Addr) (params : Arguments) (body : Expr) (scope : Scope) : Prop :=
  ∃ c, H f = some (LamO f (X.env.qual ++ "<lambda>") params body scope (cloFrom X.env.cells scope.names []) c) ∧ H c = some (LamX.CodeO c (X.env.qual ++ "<lambda>"))
theorem LamAt.nt {X : Cx} {H H' : Hp} {f : Addr} {params : Arguments} {body : Expr} {scope : Scope} (h : LamAt X H f params body scope) (s : NT H H') : LamAt X H' f params body scope :=
  let ⟨c, h1, h2⟩ := h
  ⟨c, s _ _ h1 rfl, s _ _ h2 rfl⟩
/-- from the reading of a lambda: it stands, what stood stands -/
theorem lam_facts {X : Cx} {params : Arguments} {body : Expr} {scope : Scope} {H H1 H2 : Hp} {f c : Addr} (x : LamX.ExtN H H1) (n : H1 f = none) (e : H2 = upd H1 f (LamO f (X.env.qual ++ "<lambda>") params body scope (cloFrom X.env.cells scope.names []) c))
    (c2 : H2 c = some (LamX.CodeO c (X.env.qual ++ "<lambda>"))) : NT H H2 ∧ LamAt X H2 f params body scope :=
  ⟨(extN_nt x).trans (Same.nt (by rw [e]; exact same_upd n)), c, by rw [e, upd_same], c2⟩
theorem same_lend {L : Addr → Option Obj} {H H' : Hp} (hl : Lies L H) (s : Same (unl L H) H') : Same H (lend L H') := fun b o e => by
  cases q : L b with
  | none =>
    rw [lend_none q]
    exact s b o (by rw [unl_none q]; exact e)
  | some o' =>
    rw [lend_some q, ← hl b o' q]
    exact e
theorem unl_same {L : Addr → Option Obj} {H : Hp} : Same (unl L H) H := fun b o e => by
  cases q : L b with
  | none =>
    rw [unl_none q] at e
    exact e
  | some o' =>
    rw [unl_some q] at e
    cases e
theorem lend_same {L : Addr → Option Obj} {H : Hp} (hno : ∀ a o, L a = some o → H a = none) : Same H (lend L H) := fun b o e => at_lend hno e
theorem Read.same {K : PySem.W.Frag} {BN BR TM C : Addr} {H H' : Hp} {fs : List (Str × V)} {d : PyData} (h : Read K BN BR TM H C fs d) (s : Same H H') : Read K BN BR TM H' C fs d := by
  cases h with
  | bn hd h1 h2 h3 h4 => exact .bn (dp_same hd s) h1 h2 h3 h4
  | br hd h1 h2 h3 h4 => exact .br (dp_same hd s) h1 h2 h3 h4
  | tm => exact .tm
theorem Rz.unl {L : Addr → Option Obj} {C : Addr} {fs : List (Str × V)} {H : Hp} {E : XK} (hl : Lies L H) (h : Rz C fs H E) : Rz C fs (unl L H) (fun cls d H' => (∀ a o, L a = some o → H' a = none) → E cls d (lend L H')) := fun dx H' s n e hN => by
  have q : L dx = none := by
    cases q : L dx with
    | none => rfl
    | some o =>
      rw [hN dx o q] at e
      cases e
  rw [unl_none q] at n
  exact h dx _ (same_lend hl s) n (by rw [lend_none q]; exact e)
theorem sqL_unl {K : PySem.W.Frag} {H : Hp} {L : Addr → Option Obj} {a : Addr} {xs : List V} (hl : Lies L H) (h : SqL K H a xs) : SqL K (unl L H) a xs := by
  rcases h with (h | ⟨o, h⟩) | h
  · exact .inl (.inl (by rw [unl_none (hl.away h fun _ _ y => by cases y)]; exact h))
  · refine .inl (.inr ⟨o, ?_⟩)
    cases q : L a with
    | none => rw [unl_none q]; exact h
    | some o' =>
      rw [hl a o' q] at h
      cases h
  · exact .inr h
mutual
theorem Dp.unl {K : PySem.W.Frag} {H : Hp} {L : Addr → Option Obj} (e : Lies L H) : ∀ (d : PyData) (v : V), Dp K H v d → Dp K (unl L H) v d
  | .none, _, h => by
    cases h
    exact .non
  | .bool b, _, h => by
    cases h
    exact .bl b
  | .int i, _, h => by
    cases h
    exact .int i
  | .str x, _, h => by
    cases h
    exact .str x
  | .list ds, _, h => by
    cases h with
    | lst hs ha => exact .lst (sqL_unl e hs) (DpAll.unl e ds _ ha)
  | .tuple ds, _, h => by
    cases h with
    | tup hs ha => exact .tup (sqT_unl e hs) (DpAll.unl e ds _ ha)
  | .dict kvs, _, h => by cases h
theorem DpAll.unl {K : PySem.W.Frag} {H : Hp} {L : Addr → Option Obj} (e : Lies L H) : ∀ (ds : List PyData) (vs : List V), DpAll K H vs ds → DpAll K (unl L H) vs ds
  | [], _, h => by
    cases h
    exact .nil
  | d :: ds, _, h => by
    cases h with
    | cons a b => exact .cons (Dp.unl e d _ a) (DpAll.unl e ds _ b)
end
section
variable {X : Cx} {σ : L2.St} {L : Addr → Option Obj} {N' : List Str} {τ : L2.St}
/-- what a lambda without parameters comes to, the cells lent -/
theorem gives_lam {params : Arguments} {body : Expr} {scope : Scope} {f : Addr} {k : Nat} {tb : XK → TE} {H9 : Hp} {BN BR TM : Addr} {d : PyData} (hla : LamAt X H9 f params body scope)
    (hno : ∀ a o, L a = some o → H9 a = none) (Lt : Lent X σ L) (Ls : LamP [] X.env.scope scope) (ndN : N'.Nodup) (tx : Takes2 X.N N' σ 0 τ) (hlen : τ.length = N'.length)
    (hbind : ∀ (q : Str) (cl : List (Str × Addr)) (pm cv ctv : Value), bindArgs (PySem.W.kla_fn "<lambda>" q params body scope cl pm cv ctv) ⟨[], []⟩ = pure [])
    (hbody : ∀ (c : Addr) (A : Around) (outer : List Env) (s : Shared) (H : Hp) (E : XK), Room k (A.deeper (LamX.lamEnv X scope s.heap.objs.size f c)) → PE (lamCN X N' A outer s H E scope f c) body (tb E))
    (hrun : ∀ (H : Hp) (Q : VK) (E : XK), Same H9 H → (d = .none → ∀ v H', Same H H' → Q v H') → (∀ C fs, Read X.K BN BR TM H C fs d → Rz C fs H E) → tb E τ H Q) : Gives X.prog X.w X.K X.mg X.base BN BR TM (k + 1) (lend L H9) f d := by
  obtain ⟨c, e, c9⟩ := hla
  obtain ⟨sp, TH, _, use⟩ := lam_use (k := k) (ps := []) (N' := N') (τ := τ) e c9 hno Lt Ls ndN rfl tx (by rw [List.length_nil, Nat.zero_add]; exact hlen) (fun q cl pm cv ctv us hl => by
    obtain rfl := List.length_eq_zero_iff.mp hl
    exact hbind q cl pm cv ctv) (hbody c)
  refine ⟨sp, TH, fun H' Q E s q1 q2 => ⟨Q, E, use [] H' Q E s rfl ?_, fun _ _ z => z, fun _ _ _ z => z⟩⟩
  have hl : Lies L H' := lies_lend.same s
  exact hrun (unl L H') _ _ (same_unl hno s) (fun e v H'' s' _ => q1 e v _ (same_lend hl s')) fun C fs r => (q2 C fs (r.same unl_same)).unl hl
end

/-! ### the data that are refused -/
def shw (e : PyData) : Bool := e.showable && !e.hasDict && decide (e.shown.length ≤ 100) && decide (e.depth ≤ 4) && PyData.canLay0 (.str e.shown)
structure Shw (e : PyData) : Prop where
  a : e.showable = true
  b : e.hasDict = false
  c : e.shown.length ≤ sizeLine
  d : e.depth ≤ 10
  s : PyData.canLay0 (.str e.shown) = true
theorem shw_of {e : PyData} (h : shw e = true) : Shw e := by
  unfold shw at h
  simp only [Bool.and_eq_true, Bool.not_eq_true', decide_eq_true_eq] at h
  exact ⟨h.1.1.1.1, h.1.1.1.2, Nat.le_trans h.1.1.2 (by decide), Nat.le_trans h.1.2 (by decide), h.2⟩
theorem shaped3 {a b c : Str} (h1 : PyData.canLay0 (.str a) = true) (h2 : PyData.canLay0 (.str b) = true) (h3 : PyData.canLay0 (.str c) = true) : SeqAt.shaped (.tuple [.str a, .str b, .str c]) = true := by
  unfold SeqAt.shaped
  have e : PyData.canLay0 (.tuple [.str a, .str b, .str c]) = true := by
    show (PyData.canLay0 (.str a) && (PyData.canLay0 (.str b) && (PyData.canLay0 (.str c) && true))) = true
    rw [h1, h2, h3]
    rfl
  rw [e]
  rfl
theorem shaped2 {a b : Str} (h1 : PyData.canLay0 (.str a) = true) (h2 : PyData.canLay0 (.str b) = true) : SeqAt.shaped (.tuple [.str a, .str b]) = true := by
  unfold SeqAt.shaped
  have e : PyData.canLay0 (.tuple [.str a, .str b]) = true := by
    show (PyData.canLay0 (.str a) && (PyData.canLay0 (.str b) && true)) = true
    rw [h1, h2]
    rfl
  rw [e]
  rfl
def numL : List PyData := oddL ++ [.int 4]
def modL : List PyData := oddL ++ [.int 0, .int (-2), .int 20001]
def rowL (e : PyData) : List PyData := [.none, .int 7, .str "12", .list [.int 1, e], .tuple [e], .list [.list [.int 1]], .tuple [.int 1, .int 2, .bool true], .list [.none, .int 40000, .int 0]]
theorem num_shw : ∀ e ∈ numL, shw e = true := List.all_eq_true.mp (by decide +kernel)
theorem mod_shw : ∀ e ∈ modL, shw e = true := List.all_eq_true.mp (by decide +kernel)
theorem odd_shw : ∀ e ∈ oddL, shw e = true ∧ isI e = false := fun e h => by
  have z : (shw e && !isI e) = true := List.all_eq_true.mp (show oddL.all (fun e => shw e && !isI e) = true by decide +kernel) e h
  simp only [Bool.and_eq_true, Bool.not_eq_true'] at z
  exact z
theorem row_shw : ∀ o ∈ oddL, ∀ e ∈ rowL o, shw e = true ∧ badD e = true ∧ sizeD e ≤ 1000 := fun o ho e he => by
  have z := List.all_eq_true.mp (List.all_eq_true.mp (show (oddL.all fun o => (rowL o).all fun e => shw e && badD e && decide (sizeD e ≤ 1000)) = true by decide +kernel) o ho) e he
  simp only [Bool.and_eq_true, decide_eq_true_eq] at z
  exact ⟨z.1.1, z.1.2, z.2⟩
def modOk : PyData → Bool
  | .int m => !decide (1 ≤ m ∧ m ≤ 20000)
  | _ => true
theorem mod_bad {e : PyData} (h : e ∈ modL) {m : Int} (he : e = .int m) : ¬ (1 ≤ m ∧ m ≤ 20000) := by
  have z := List.all_eq_true.mp (show (modL.all modOk) = true by decide +kernel) e h
  rw [he] at z
  unfold modOk at z
  simp only [Bool.not_eq_true', decide_eq_false_iff_not] at z
  exact z
theorem odd_num {e : PyData} (h : e ∈ oddL) : e ∈ numL := List.mem_append_left _ h
theorem odd_mod {e : PyData} (h : e ∈ oddL) : e ∈ modL := List.mem_append_left _ h
def cntD (e : PyData) : PyData := if isI e = true then .none else .tuple [.str "number", .str "count", .str e.shown]
theorem ifE_by {A B : VK → Prop} {b : Bool} {R Q : VK} (ha : b = true → ∀ Q : VK, (∀ v H', R v H' → Q v H') → A Q) (hb : b = false → ∀ Q : VK, (∀ v H', R v H' → Q v H') → B Q) (h : ∀ v H', R v H' → Q v H') : if b = true then A Q else B Q := by
  cases b with
  | true => exact iteT (ha rfl Q h)
  | false => exact iteF (hb rfl Q h)
theorem mk1_run {K : PySem.W.Frag} {C BN BR TM : Addr} {G : Int → Form → Prop} {v : V} {e : PyData} {H : Hp} {Q : VK} {E : XK} (hd : Dp K H v e) (hs : shw e = true) (qn : cntD e = .none → ∀ v H', Same H H' → Q v H') (qe : ∀ C fs, Read K BN BR TM H C fs (cntD e) → Rz C fs H E) : spMk1 K C BN G [v] H Q E := by
  refine ⟨v, e, rfl, hd, fun n x F p H' _ s _ => qn (by rw [x]; rfl) _ _ s, fun hi => qe BN _ ?_⟩
  unfold cntD
  rw [if_neg (by rw [hi]; exact Bool.false_ne_true)]
  have z := shw_of hs
  exact .bn hd z.a z.b z.c z.d

def spPenT (K : PySem.W.Frag) (TT : List (Addr × Str)) (lo n : Nat) : Sp := fun vs H Q _ => ∃ (d : Addr) (k : Nat), vs = [.ref d] ∧ k ≤ lo ∧ Pen K H d k ∧ LamX.Tabs TT H ∧ ∀ H', KP H H' → Pen K H' d (k + n) → LamX.Tabs TT H' → Q (.bl true) H'
section
variable {P : Program} {w : World} {K : PySem.W.Frag} {mg : Str → Option Value} {base : Heap}
theorem ok_refuses {C BN BR TM c : Addr} {TT : List (Addr × Str)} (h : HasT K mg "_law_refuses" s_law_refuses c) (TI : TabIn base mg TT "_law_refuses" (defScope s_law_refuses) c) (T : Tx K mg) (DI : Df P w K mg base 1 "_law_is_int" ["_law_value"] (spIsInt K)) (DP : Df P w K mg base 2 "_law_pick" ["_law_pen_here", "_law_some"] (spPick K)) (DO : Df P w K mg base 3 "_law_odd" ["_law_pen_here"] (spOdd K))
    (DW : DfG P w K mg base 9 "_law_why" ["_law_call"] (spWhy P w K mg base BN BR TM 8)) (DWS : DfG P w K mg base 10 "_law_whys" ["_law_calls", "_law_due_here"] (spWhys P w K mg base BN BR TM 8))
    (M2 : Df P w K mg base 6 "just" ["n"] (spMk1 K C BN fun n => SF n false [true] false)) (M3 : Df P w K mg base 6 "at_least" ["n"] (spMk1 K C BN fun n => SF n false [] true)) (M4 : Df P w K mg base 6 "at_most" ["n"] (spMk1 K C BN fun n => SF (n + 1) true [] false))
    (M5 : Df P w K mg base 6 "every" ["m", "r"] (spEvery K C BN)) (M6 : Df P w K mg base 6 "between" ["low", "high"] (spBetween K C BN TM)) (M7 : Df P w K mg base 7 "listed" ["row"] (spListed K C BR TM)) : DfG P w K mg base 12 "_law_refuses" ["_law_pen_here"] (spPenT K TT 500000 10) := by
  obtain ⟨Pt, TB, hmT, huT⟩ := TI.ex
  refine h.dfG c_law_refuses (fun _ _ _ _ _ _ us hl => match us, hl with | [_], _ => rfl) (fun vs H Q E ⟨_, _, e, _⟩ => by rw [e]; rfl) fun f A outer s H vs Q E hr hg hs => ?_
  obtain ⟨d, k, rfl, hk, hp, hTT, q⟩ := hs
  have hr1 := hr.mono (show 1 ≤ 11 by decide)
  have hr2 := hr.mono (show 2 ≤ 11 by decide)
  have hr3 := hr.mono (show 3 ≤ 11 by decide)
  have hr9 := hr.mono (show 9 ≤ 11 by decide)
  have hr10 := hr.mono (show 10 ≤ 11 by decide)
  refine ⟨_, (pss_cons (ps_asg (pe_tup (pa_cons (pe_df DP hr2 passL (by rfl) (pa_cons (pv 0) (pa_cons (pe_lst (pa_cons (pe_df DO hr3 passL (by rfl) (pa_cons (pv 0) pa_nil)) (pa_cons pe_int pa_nil))) pa_nil))) (pa_cons (pe_df DP hr2 passL (by rfl) (pa_cons (pv 0) (pa_cons (pe_lst (pa_cons (pe_df DO hr3 passL (by rfl) (pa_cons (pv 0) pa_nil)) (pa_cons pe_int (pa_cons (pe_un un_neg pe_int) (pa_cons pe_int pa_nil))))) pa_nil))) (pa_cons (pe_df DO hr3 passL (by rfl) (pa_cons (pv 0) pa_nil)) pa_nil)))) (pg_tup rfl (pgs_cons (pg_name (i := 1) c_law_refuses.nd rfl (.inr rfl)) (pgs_cons (pg_name (i := 2) c_law_refuses.nd rfl (.inr rfl)) (pgs_cons (pg_name (i := 3) c_law_refuses.nd rfl (.inr rfl)) pgs_nil)))))
    (pss_cons (ps_set (i := 4) c_law_refuses.nd rfl (.inl rfl) (pe_ifExp (pt_val (pe_df DI hr1 passL (by rfl) (pa_cons (pv 1) pa_nil))) pe_non (pe_tup (pa_cons pe_str (pa_cons pe_str (pa_cons (pe_callB (reprS (K := K) rfl hg hr.units) (by rfl) T.repr boot_repr (pa_cons (pv 1) pa_nil)) pa_nil))))))
    (pss_cons (ps_set (i := 5) c_law_refuses.nd rfl (.inl rfl) (pe_lst (pa_cons (pe_lamN TB rfl hmT huT rfl (lam_free (ps := []) (sc := defScope s_law_refuses) (lamP_by (by decide +kernel)))) (pa_cons (pe_lamN TB rfl hmT huT rfl (lam_free (ps := []) (sc := defScope s_law_refuses) (lamP_by (by decide +kernel)))) (pa_cons (pe_lamN TB rfl hmT huT rfl (lam_free (ps := []) (sc := defScope s_law_refuses) (lamP_by (by decide +kernel)))) pa_nil)))))
    (pss_cons (ps_if (pt_not (pt_val (pe_lendG DWS hr10 hg (fun _ => rfl) (by rfl) (pa_cons (pv 5) (pa_cons (pv 4) pa_nil))))) (pss_one (ps_ret pe_bl)) pss_nil)
    (pss_cons (ps_if (pt_cmpR (op_neD hr.units) (pe_lendG DW hr9 hg (fun _ => rfl) (by rfl) (pa_cons (pe_lamN TB rfl hmT huT rfl (lam_free (ps := []) (sc := defScope s_law_refuses) (lamP_by (by decide +kernel)))) pa_nil)) (pe_tup (pa_cons pe_str (pa_cons pe_str (pa_cons (pe_callB (reprS (K := K) rfl hg hr.units) (by rfl) T.repr boot_repr (pa_cons (pv 2) pa_nil)) pa_nil)))) (nomark _)) (pss_one (ps_ret pe_bl)) pss_nil)
    (pss_cons (ps_if (pt_cmpR (op_neD hr.units) (pe_lendG DW hr9 hg (fun _ => rfl) (by rfl) (pa_cons (pe_lamN TB rfl hmT huT rfl (lam_free (ps := []) (sc := defScope s_law_refuses) (lamP_by (by decide +kernel)))) pa_nil)) (pe_tup (pa_cons pe_str (pa_cons pe_str (pa_cons (pe_callB (reprS (K := K) rfl hg hr.units) (by rfl) T.repr boot_repr (pa_cons (pv 3) pa_nil)) pa_nil)))) (nomark _)) (pss_one (ps_ret pe_bl)) pss_nil)
    (pss_cons (ps_set (i := 4) c_law_refuses.nd rfl (.inl rfl) (pe_ifExp (pt_val (pe_df DI hr1 passL (by rfl) (pa_cons (pv 1) pa_nil))) (pe_tup (pa_cons pe_str (pa_cons pe_str (pa_cons (pe_callB (reprS (K := K) rfl hg hr.units) (by rfl) T.repr boot_repr (pa_cons (pv 3) pa_nil)) pa_nil)))) (pe_tup (pa_cons pe_str (pa_cons pe_str (pa_cons (pe_callB (reprS (K := K) rfl hg hr.units) (by rfl) T.repr boot_repr (pa_cons (pv 1) pa_nil)) pa_nil))))))
    (pss_cons (ps_if (pt_cmpR (op_neD hr.units) (pe_lendG DW hr9 hg (fun _ => rfl) (by rfl) (pa_cons (pe_lamN TB rfl hmT huT rfl (lam_free (ps := []) (sc := defScope s_law_refuses) (lamP_by (by decide +kernel)))) pa_nil)) (pv 4) (nomark _)) (pss_one (ps_ret pe_bl)) pss_nil)
    (pss_cons (ps_set (i := 6) c_law_refuses.nd rfl (.inr rfl) (pe_df DP hr2 passL (by rfl) (pa_cons (pv 0) (pa_cons (pe_lst (pa_cons pe_non (pa_cons pe_int (pa_cons pe_str (pa_cons (pe_lst (pa_cons pe_int (pa_cons (pv 3) pa_nil))) (pa_cons (pe_tup (pa_cons (pv 3) pa_nil)) (pa_cons (pe_lst (pa_cons (pe_lst (pa_cons pe_int pa_nil)) pa_nil)) (pa_cons (pe_tup (pa_cons pe_int (pa_cons pe_int (pa_cons pe_bl pa_nil)))) (pa_cons (pe_lst (pa_cons pe_non (pa_cons pe_int (pa_cons pe_int pa_nil)))) pa_nil))))))))) pa_nil))))
    (pss_one (ps_ret (pe_cmpR (op_eqD hr.units) (pe_lendG DW hr9 hg (fun _ => rfl) (by rfl) (pa_cons (pe_lamN TB rfl hmT huT rfl (lam_free (ps := []) (sc := defScope s_law_refuses) (lamP_by (by decide +kernel)))) pa_nil)) (pe_tup (pa_cons pe_str (pa_cons (pe_callB (reprS (K := K) rfl hg hr.units) (by rfl) T.repr boot_repr (pa_cons (pv 6) pa_nil)) pa_nil))) (nomark _))))))))))))), ?_⟩
  refine ⟨_, rfl, _, rfl, d, k, rfl, by omega, hp, fun v1 e1 H1 h1 y1 d1 p1 => ⟨(by show 2 ≤ sizeLine; decide), fun l2 n2 => ?_⟩⟩
  have s2 := same_upd (o := .lst [v1, .int 4]) n2
  refine ⟨d, l2, _, k + 1, rfl, sqL_new, (by simp), (by show 2 ≤ 1000000; decide), by omega, p1.same s2, fun j nV H3 hj d3 p3 => ?_⟩
  obtain ⟨en, hen, dn⟩ : ∃ e ∈ numL, Dp K H3 nV e := by
    match j, hj with
    | 0, e => exact ⟨e1, odd_num h1, by rw [← Option.some.inj e]; exact dp_kp (dp_same y1 s2) d3.kp⟩
    | 1, e => exact ⟨.int 4, List.mem_append_right _ (by simp), by rw [← Option.some.inj e]; exact .int 4⟩
    | j + 2, e => simp at e
  refine ⟨_, rfl, _, rfl, d, k + 2, rfl, by omega, p3, fun v4 e4 H4 h4 y4 d4 p4 => ⟨2, rfl, (by show 4 ≤ sizeLine; decide), fun l5 n5 => ?_⟩⟩
  have s5 := same_upd (o := .lst [v4, .int 0, .int (-2), .int 20001]) n5
  refine ⟨d, l5, _, k + 3, rfl, sqL_new, (by simp), (by show 4 ≤ 1000000; decide), by omega, p4.same s5, fun j mV H6 hj d6 p6 => ?_⟩
  obtain ⟨em, hem, dm⟩ : ∃ e ∈ modL, Dp K H6 mV e := by
    match j, hj with
    | 0, e => exact ⟨e4, odd_mod h4, by rw [← Option.some.inj e]; exact dp_kp (dp_same y4 s5) d6.kp⟩
    | 1, e => exact ⟨.int 0, List.mem_append_right _ (by simp), by rw [← Option.some.inj e]; exact .int 0⟩
    | 2, e => exact ⟨.int (-2), List.mem_append_right _ (by simp), by rw [← Option.some.inj e]; exact .int (-2)⟩
    | 3, e => exact ⟨.int 20001, List.mem_append_right _ (by simp), by rw [← Option.some.inj e]; exact .int 20001⟩
    | j + 4, e => simp at e
  refine ⟨_, rfl, d, k + 4, rfl, by omega, p6, fun oV eo H7 heo do_ d7 p7 => ⟨(by show 3 ≤ sizeLine; decide), fun t8 n8 => ⟨t8, _, rfl, sqT_new, rfl, _, _, rfl, _, _, rfl, _, _, rfl, rfl, ?_⟩⟩⟩
  have s8 := same_upd (o := .tup [nV, mV, oV]) n8
  have dn8 := dp_same (dp_kp (dp_kp dn ((d4.trans ((Same.nd s5).trans d6)).kp)) d7.kp) s8
  have dm8 := dp_same (dp_kp dm d7.kp) s8
  have do8 := dp_same do_ s8
  have d08 := d1.trans ((Same.nd s2).trans (d3.trans (d4.trans ((Same.nd s5).trans (d6.trans (d7.trans (Same.nd s8)))))))
  have p8 := p7.same s8
  generalize upd H7 t8 (.tup [nV, mV, oV]) = H8 at s8 dn8 dm8 do8 d08 p8
  have t8' := tabs_nd hTT d08
  -- what is due of the three
  refine ⟨_, rfl, nV, en, rfl, dn8, _, rfl, ?_⟩
  refine ifE_by (A := fun Q => L2.tC .non _ _ Q) (B := fun Q => tTup _ _ _ Q) (R := fun v H' => Same H8 H' ∧ Dp K H' v (cntD en)) (fun hi Q' hq => ?_) (fun hi Q' hq => ?_) (fun dv H9 hR9 => ?_)
  · exact hq _ _ ⟨Same.refl _, by unfold cntD; rw [if_pos hi]; exact .non⟩
  · have z := shw_of (num_shw en hen)
    refine ⟨_, rfl, nV, en, rfl, dn8, z.a, z.b, z.c, z.d, (by show 3 ≤ sizeLine; decide), fun p np => ?_⟩
    have sp := same_upd (o := .tup [.str "number", .str "count", .str en.shown]) np
    refine hq _ _ ⟨sp, ?_⟩
    unfold cntD
    rw [if_neg (by rw [hi]; exact Bool.false_ne_true)]
    exact .tup sqT_new (.cons (.str _) (.cons (.str _) (.cons (.str _) .nil)))
  obtain ⟨s9, dv9⟩ := hR9
  have t9 := t8'.ext s9
  refine ⟨t9, fun f1 c1 Ha H10 xa na ea t10 ca => ⟨t10, fun f2 c2 Hb H11 xb nb eb t11 cb => ⟨t11, fun f3 c3 Hc H12 xc nc ec t12 cc => ?_⟩⟩⟩
  obtain ⟨x10, l1⟩ := lam_facts xa na ea ca
  obtain ⟨x11, l2⟩ := lam_facts xb nb eb cb
  obtain ⟨x12, l3⟩ := lam_facts xc nc ec cc
  clear xa na ea ca xb nb eb cb xc nc ec cc
  refine ⟨(by show 3 ≤ sizeLine; decide), fun l13 n13 => ?_⟩
  have s13 := same_upd (o := .lst [.ref f1, .ref f2, .ref f3]) n13
  refine ⟨_, rfl, _, rfl, fun L Lt hno => ?_⟩
  have n913 := x10.trans (x11.trans (x12.trans (Same.nt s13)))
  have dn13 := dp_kp (dp_same dn8 s9) n913.kp
  have dv13 := dp_kp dv9 n913.kp
  refine ⟨l13, dv, [f1, f2, f3], cntD en, rfl, sqL_same sqL_new (lend_same hno), (by show 3 ≤ 1000; decide), fun g hg' => ?_, dp_same dv13 (lend_same hno), ?_, fun H14 s14 => ?_⟩
  · simp only [List.mem_cons, List.not_mem_nil, or_false] at hg'
    rcases hg' with rfl | rfl | rfl
    · exact gives_lam (k := 7) (N' := ["_law_n"]) (τ := [some nV]) ((l1.nt x11).nt (x12.trans (Same.nt s13))) hno Lt (lamP_by (sc := defScope s_law_refuses) (by decide +kernel)) (by decide) (tk_cons 1 rfl rfl tk_nil) rfl (fun _ _ _ _ _ => rfl) (fun c' A' o' s' H' E' hr' => pe_df M2 (hr'.mono (by decide)) (thru rfl rfl rfl rfl) (by rfl) (pa_cons (pv 0) pa_nil)) (fun H' Q' E' s' qn qe => ⟨_, rfl, mk1_run (dp_same dn13 s') (num_shw en hen) qn qe⟩)
    · exact gives_lam (k := 7) (N' := ["_law_n"]) (τ := [some nV]) ((l2.nt x12).nt (Same.nt s13)) hno Lt (lamP_by (sc := defScope s_law_refuses) (by decide +kernel)) (by decide) (tk_cons 1 rfl rfl tk_nil) rfl (fun _ _ _ _ _ => rfl) (fun c' A' o' s' H' E' hr' => pe_df M3 (hr'.mono (by decide)) (thru rfl rfl rfl rfl) (by rfl) (pa_cons (pv 0) pa_nil)) (fun H' Q' E' s' qn qe => ⟨_, rfl, mk1_run (dp_same dn13 s') (num_shw en hen) qn qe⟩)
    · exact gives_lam (k := 7) (N' := ["_law_n"]) (τ := [some nV]) (l3.nt (Same.nt s13)) hno Lt (lamP_by (sc := defScope s_law_refuses) (by decide +kernel)) (by decide) (tk_cons 1 rfl rfl tk_nil) rfl (fun _ _ _ _ _ => rfl) (fun c' A' o' s' H' E' hr' => pe_df M4 (hr'.mono (by decide)) (thru rfl rfl rfl rfl) (by rfl) (pa_cons (pv 0) pa_nil)) (fun H' Q' E' s' qn qe => ⟨_, rfl, mk1_run (dp_same dn13 s') (num_shw en hen) qn qe⟩)
  · unfold cntD
    split
    · rfl
    · exact shaped3 (by decide +kernel) (by decide +kernel) (shw_of (num_shw en hen)).s
  have s15 := s13.trans (same_unl hno s14)
  have n15 : NT H8 (unl L H14) := (Same.nt s9).trans (x10.trans (x11.trans (x12.trans (Same.nt s15))))
  have t15 : LamX.Tabs TT (unl L H14) := t12.ext s15
  refine ⟨_, rfl, ?_⟩
  refine iteF ?_
  dsimp only
  generalize unl L H14 = H15 at n15 t15 s15 ⊢
  clear s15 s14 dn13 dv13 n913 s13 n13 x10 x11 x12 l1 l2 l3 hno Lt L
  -- a modulus
  refine ⟨t15, fun f4 c4 Ha H16 xa na ea t16 ca => ?_⟩
  obtain ⟨x16, l4⟩ := lam_facts xa na ea ca
  clear xa na ea ca
  have zm := shw_of (mod_shw em hem)
  have dm16 := dp_kp dm8 (n15.trans x16).kp
  have do16 := dp_kp do8 (n15.trans x16).kp
  refine fun L Lt hno => ⟨f4, .tuple [.str "number", .str "modulus", .str em.shown], rfl, ?_, fun v17 H17 s17 hv17 => ?_⟩
  · exact gives_lam (k := 7) (N' := ["_law_m", "_law_odd_here"]) (τ := [some mV, some oV]) l4 hno Lt (lamP_by (sc := defScope s_law_refuses) (by decide +kernel)) (by decide) (tk_cons 2 rfl rfl (tk_cons 3 rfl rfl tk_nil)) rfl (fun _ _ _ _ _ => rfl) (fun c' A' o' s' H' E' hr' => pe_df M5 (hr'.mono (by decide)) (thru rfl rfl rfl rfl) (by rfl) (pa_cons (pv 0) (pa_cons (pv 1) pa_nil)))
      (fun H' Q' E' s' qn qe => ⟨_, rfl, _, rfl, mV, em, oV, eo, rfl, dp_same dm16 s', dp_same do16 s', fun _ => qe _ _ (.bn (dp_same dm16 s') zm.a zm.b zm.c zm.d), fun _ _ _ => qe _ _ (.bn (dp_same dm16 s') zm.a zm.b zm.c zm.d), fun m' e h1 h2 => absurd ⟨by omega, by omega⟩ (mod_bad hem e)⟩)
  have s17' := same_unl hno s17
  have hv17 := Dp.unl (lies_lend.same s17) _ _ hv17
  have m17 := n15.trans (x16.trans (Same.nt s17'))
  refine ⟨_, rfl, mV, em, rfl, dp_kp dm8 m17.kp, zm.a, zm.b, zm.c, zm.d, (by show 3 ≤ sizeLine; decide), fun p18 n18 => ?_⟩
  have s18 := same_upd (o := .tup [.str "number", .str "modulus", .str em.shown]) n18
  have sh18 : SeqAt.shaped (.tuple [.str "number", .str "modulus", .str em.shown]) = true := shaped3 (by decide +kernel) (by decide +kernel) zm.s
  refine ⟨_, _, dp_same hv17 s18, .tup sqT_new (.cons (.str _) (.cons (.str _) (.cons (.str _) .nil))), sh18, sh18, _, rfl, ?_⟩
  rw [eqv_shaped sh18]
  refine iteF ?_
  have n19 : NT H8 _ := m17.trans (Same.nt s18)
  have t19 : LamX.Tabs TT _ := t16.ext (s17'.trans s18)
  dsimp only
  generalize upd (unl L H17) p18 (.tup [.str "number", .str "modulus", .str em.shown]) = H19 at n19 t19 ⊢
  clear s18 n18 m17 hv17 s17' s17 dm16 do16 hno Lt L l4 x16
  -- a rest
  have zo := shw_of (odd_shw eo heo).1
  refine ⟨t19, fun f5 c5 Ha H20 xa na ea t20 ca => ?_⟩
  obtain ⟨x20, l5⟩ := lam_facts xa na ea ca
  clear xa na ea ca
  have do20 := dp_kp do8 (n19.trans x20).kp
  refine fun L Lt hno => ⟨f5, .tuple [.str "number", .str "rest", .str eo.shown], rfl, ?_, fun v21 H21 s21 hv21 => ?_⟩
  · exact gives_lam (k := 7) (N' := ["_law_odd_here"]) (τ := [some oV]) l5 hno Lt (lamP_by (sc := defScope s_law_refuses) (by decide +kernel)) (by decide) (tk_cons 3 rfl rfl tk_nil) rfl (fun _ _ _ _ _ => rfl) (fun c' A' o' s' H' E' hr' => pe_df M5 (hr'.mono (by decide)) (thru rfl rfl rfl rfl) (by rfl) (pa_cons pe_int (pa_cons (pv 0) pa_nil)))
      (fun H' Q' E' s' qn qe => ⟨_, rfl, .int 20000, .int 20000, oV, eo, rfl, .int _, dp_same do20 s', fun z => (by cases z), fun m' e z => absurd (show 1 ≤ m' ∧ m' ≤ 20000 by rw [← PyData.int.inj e]; decide) z, fun m' e h1 h2 => ⟨fun _ => qe _ _ (.bn (dp_same do20 s') zo.a zo.b zo.c zo.d), fun r' e' => by
        have z := (odd_shw eo heo).2
        rw [e'] at z
        cases z⟩⟩)
  have s21' := same_unl hno s21
  have hv21 := Dp.unl (lies_lend.same s21) _ _ hv21
  have m21 := n19.trans (x20.trans (Same.nt s21'))
  refine ⟨_, rfl, oV, eo, rfl, dp_kp do8 m21.kp, zo.a, zo.b, zo.c, zo.d, (by show 3 ≤ sizeLine; decide), fun p22 n22 => ?_⟩
  have s22 := same_upd (o := .tup [.str "number", .str "rest", .str eo.shown]) n22
  have sh22 : SeqAt.shaped (.tuple [.str "number", .str "rest", .str eo.shown]) = true := shaped3 (by decide +kernel) (by decide +kernel) zo.s
  refine ⟨_, _, dp_same hv21 s22, .tup sqT_new (.cons (.str _) (.cons (.str _) (.cons (.str _) .nil))), sh22, sh22, _, rfl, ?_⟩
  rw [eqv_shaped sh22]
  refine iteF ?_
  have n23 : NT H8 _ := m21.trans (Same.nt s22)
  have t23 : LamX.Tabs TT _ := t20.ext (s21'.trans s22)
  dsimp only
  generalize upd (unl L H21) p22 (.tup [.str "number", .str "rest", .str eo.shown]) = H23 at n23 t23 ⊢
  clear s22 n22 m21 hv21 s21' s21 do20 hno Lt L l5 x20
  -- what is due of between
  have dn23 := dp_kp dn8 n23.kp
  have do23 := dp_kp do8 n23.kp
  obtain ⟨du, hdu⟩ : ∃ du : PyData, du = if isI en = true then .tuple [.str "number", .str "high", .str eo.shown] else .tuple [.str "number", .str "low", .str en.shown] := ⟨_, rfl⟩
  have zn := shw_of (num_shw en hen)
  have shu : SeqAt.shaped du = true := by
    rw [hdu]
    split
    · exact shaped3 (by decide +kernel) (by decide +kernel) zo.s
    · exact shaped3 (by decide +kernel) (by decide +kernel) zn.s
  refine ⟨_, rfl, nV, en, rfl, dn23, _, rfl, ?_⟩
  refine ifE_by (A := fun Q => tTup _ _ _ Q) (B := fun Q => tTup _ _ _ Q) (R := fun v H' => Same H23 H' ∧ Dp K H' v du) (fun hi Q' hq => ?_) (fun hi Q' hq => ?_) (fun dv2 H24 hR24 => ?_)
  · refine ⟨_, rfl, oV, eo, rfl, do23, zo.a, zo.b, zo.c, zo.d, (by show 3 ≤ sizeLine; decide), fun p np => ?_⟩
    have sp := same_upd (o := .tup [.str "number", .str "high", .str eo.shown]) np
    refine hq _ _ ⟨sp, ?_⟩
    rw [hdu, if_pos hi]
    exact .tup sqT_new (.cons (.str _) (.cons (.str _) (.cons (.str _) .nil)))
  · refine ⟨_, rfl, nV, en, rfl, dn23, zn.a, zn.b, zn.c, zn.d, (by show 3 ≤ sizeLine; decide), fun p np => ?_⟩
    have sp := same_upd (o := .tup [.str "number", .str "low", .str en.shown]) np
    refine hq _ _ ⟨sp, ?_⟩
    rw [hdu, if_neg (by rw [hi]; exact Bool.false_ne_true)]
    exact .tup sqT_new (.cons (.str _) (.cons (.str _) (.cons (.str _) .nil)))
  obtain ⟨s24, dv24⟩ := hR24
  refine ⟨t23.ext s24, fun f6 c6 Ha H25 xa na ea t25 ca => ?_⟩
  obtain ⟨x25, l6⟩ := lam_facts xa na ea ca
  clear xa na ea ca
  have n825 := n23.trans ((Same.nt s24).trans x25)
  have dn25 := dp_kp dn8 n825.kp
  have do25 := dp_kp do8 n825.kp
  refine fun L Lt hno => ⟨f6, du, rfl, ?_, fun v26 H26 s26 hv26 => ?_⟩
  · exact gives_lam (k := 7) (N' := ["_law_n", "_law_odd_here"]) (τ := [some nV, some oV]) l6 hno Lt (lamP_by (sc := defScope s_law_refuses) (by decide +kernel)) (by decide) (tk_cons 1 rfl rfl (tk_cons 3 rfl rfl tk_nil)) rfl (fun _ _ _ _ _ => rfl) (fun c' A' o' s' H' E' hr' => pe_df M6 (hr'.mono (by decide)) (thru rfl rfl rfl rfl) (by rfl) (pa_cons (pv 0) (pa_cons (pv 1) pa_nil)))
      (fun H' Q' E' s' qn qe => ⟨_, rfl, _, rfl, nV, en, oV, eo, rfl, dp_same dn25 s', dp_same do25 s', fun hi => qe _ _ (by rw [hdu, if_neg (by rw [hi]; exact Bool.false_ne_true)]; exact .bn (dp_same dn25 s') zn.a zn.b zn.c zn.d), fun hi _ => qe _ _ (by rw [hdu, if_pos hi]; exact .bn (dp_same do25 s') zo.a zo.b zo.c zo.d), fun lo hi _ e' => by
        have z := (odd_shw eo heo).2
        rw [e'] at z
        cases z⟩)
  have s26' := same_unl hno s26
  have hv26 := Dp.unl (lies_lend.same s26) _ _ hv26
  refine ⟨_, rfl, _, _, hv26, dp_kp dv24 (x25.trans (Same.nt s26')).kp, shu, shu, _, rfl, ?_⟩
  rw [eqv_shaped shu]
  refine iteF ?_
  have n27 : NT H8 _ := n825.trans (Same.nt s26')
  have t27 : LamX.Tabs TT _ := t25.ext s26'
  dsimp only
  generalize unl L H26 = H27 at n27 t27 ⊢
  clear dv24 s24 hdu shu hv26 s26' s26 dn25 do25 n825 hno Lt L l6 x25 dn23 do23 zn
  have p27 := p8.nt n27
  have do27 := dp_kp do8 n27.kp
  -- a row
  refine ⟨_, rfl, _, rfl, (by show 2 ≤ sizeLine; decide), fun la na => ⟨_, rfl, (by show 1 ≤ sizeLine; decide), fun lb nb => ⟨(by show 1 ≤ sizeLine; decide), fun lc nc => ⟨(by show 1 ≤ sizeLine; decide), fun ld nd => ⟨(by show 3 ≤ sizeLine; decide), fun le ne_ => ⟨(by show 3 ≤ sizeLine; decide), fun lf nf => ⟨(by show 8 ≤ sizeLine; decide), fun lg ng => ?_⟩⟩⟩⟩⟩⟩⟩
  have ka := same_upd (o := .lst [.int 1, oV]) na
  have kb := same_upd (o := .tup [oV]) nb
  have kc := same_upd (o := .lst [.int 1]) nc
  have kd := same_upd (o := .lst [.ref lc]) nd
  have ke := same_upd (o := .tup [.int 1, .int 2, .bl true]) ne_
  have kf := same_upd (o := .lst [.non, .int 40000, .int 0]) nf
  have kg := same_upd (o := .lst [.non, .int 7, .str "12", .ref la, .ref lb, .ref ld, .ref le, .ref lf]) ng
  have kfg := kf.trans kg
  have keg := ke.trans kfg
  have kdg := kd.trans keg
  have kcg := kc.trans kdg
  have kbg := kb.trans kcg
  have kag := ka.trans kbg
  have hla : Dp K _ (.ref la) (.list [.int 1, eo]) := .lst (sqL_same sqL_new kbg) (.cons (.int 1) (.cons (dp_same do27 kag) .nil))
  have hlb : Dp K _ (.ref lb) (.tuple [eo]) := .tup (sqT_same sqT_new kcg) (.cons (dp_same do27 kag) .nil)
  have hld : Dp K _ (.ref ld) (.list [.list [.int 1]]) := .lst (sqL_same sqL_new keg) (.cons (.lst (sqL_same sqL_new kdg) (.cons (.int 1) .nil)) .nil)
  have hle : Dp K _ (.ref le) (.tuple [.int 1, .int 2, .bool true]) := .tup (sqT_same sqT_new kfg) (.cons (.int 1) (.cons (.int 2) (.cons (.bl true) .nil)))
  have hlf : Dp K _ (.ref lf) (.list [.none, .int 40000, .int 0]) := .lst (sqL_same sqL_new kg) (.cons .non (.cons (.int 40000) (.cons (.int 0) .nil)))
  refine ⟨d, lg, _, k + 5, rfl, sqL_new, (by simp), (by show 8 ≤ 1000000; decide), by omega, p27.same kag, fun j wV H28 hj d28 p28 => ?_⟩
  obtain ⟨ew, hew, dw⟩ : ∃ e ∈ rowL eo, Dp K H28 wV e := by
    match j, hj with
    | 0, e => exact ⟨.none, by simp [rowL], by rw [← Option.some.inj e]; exact .non⟩
    | 1, e => exact ⟨.int 7, by simp [rowL], by rw [← Option.some.inj e]; exact .int 7⟩
    | 2, e => exact ⟨.str "12", by simp [rowL], by rw [← Option.some.inj e]; exact .str _⟩
    | 3, e => exact ⟨.list [.int 1, eo], by simp [rowL], by rw [← Option.some.inj e]; exact dp_kp hla d28.kp⟩
    | 4, e => exact ⟨.tuple [eo], by simp [rowL], by rw [← Option.some.inj e]; exact dp_kp hlb d28.kp⟩
    | 5, e => exact ⟨.list [.list [.int 1]], by simp [rowL], by rw [← Option.some.inj e]; exact dp_kp hld d28.kp⟩
    | 6, e => exact ⟨.tuple [.int 1, .int 2, .bool true], by simp [rowL], by rw [← Option.some.inj e]; exact dp_kp hle d28.kp⟩
    | 7, e => exact ⟨.list [.none, .int 40000, .int 0], by simp [rowL], by rw [← Option.some.inj e]; exact dp_kp hlf d28.kp⟩
    | j + 8, e => simp at e
  have t28 : LamX.Tabs TT H28 := tabs_nd (t27.ext kag) d28
  have k28 : KP H H28 := d08.kp.trans (n27.kp.trans ((Same.kp kag).trans d28.kp))
  obtain ⟨w1, w2, w3⟩ := row_shw eo heo ew hew
  have zw := shw_of w1
  clear hla hlb hld hle hlf kag kbg kcg kdg keg kfg
  refine ⟨t28, fun f7 c7 Ha H29 xa na' ea t29 ca => ?_⟩
  obtain ⟨x29, l7⟩ := lam_facts xa na' ea ca
  clear xa na' ea ca
  have dw29 := dp_kp dw x29.kp
  refine fun L Lt hno => ⟨f7, .tuple [.str "row", .str ew.shown], rfl, ?_, fun v30 H30 s30 hv30 => ?_⟩
  · exact gives_lam (k := 7) (N' := ["_law_row"]) (τ := [some wV]) l7 hno Lt (lamP_by (sc := defScope s_law_refuses) (by decide +kernel)) (by decide) (tk_cons 6 rfl rfl tk_nil) rfl (fun _ _ _ _ _ => rfl) (fun c' A' o' s' H' E' hr' => pe_df M7 (hr'.mono (by decide)) (thru rfl rfl rfl rfl) (by rfl) (pa_cons (pv 0) pa_nil))
      (fun H' Q' E' s' qn qe => ⟨_, rfl, wV, rfl, .inr ⟨ew, dp_same dw29 s', w2, w3, qe _ _ (.br (dp_same dw29 s') zw.a zw.b zw.c zw.d)⟩⟩)
  have s30' := same_unl hno s30
  have hv30 := Dp.unl (lies_lend.same s30) _ _ hv30
  refine ⟨_, rfl, wV, ew, rfl, dp_same dw29 s30', zw.a, zw.b, zw.c, zw.d, (by show 2 ≤ sizeLine; decide), fun p31 n31 => ?_⟩
  have s31 := same_upd (o := .tup [.str "row", .str ew.shown]) n31
  have sh31 : SeqAt.shaped (.tuple [.str "row", .str ew.shown]) = true := shaped2 (by decide +kernel) zw.s
  refine ⟨_, _, dp_same hv30 s31, .tup sqT_new (.cons (.str _) (.cons (.str _) .nil)), sh31, sh31, ?_⟩
  rw [eqv_shaped sh31]
  have s31' := s30'.trans s31
  exact q _ (k28.trans (x29.kp.trans (Same.kp s31'))) (((p28.nt x29).same s31').le (by omega)) (t29.ext s31')
end
end Rk
set_option maxHeartbeats 4000000
/-! The law's defs, ninth part: two sets put together in a lambda; _law_ranges. -/
namespace Rk
open PySem PySem.Spec PyProof.Rows L2

def tmD (x : String) : PyData := .tuple [.str "many", .str (Str.ofString x), .int 20000]
theorem shaped_tm {x : String} (h : PyData.canLay0 (.str (Str.ofString x)) = true) : SeqAt.shaped (tmD x) = true := by
  unfold SeqAt.shaped
  have e : PyData.canLay0 (tmD x) = true := by
    show (PyData.canLay0 (.str "many") && (PyData.canLay0 (.str (Str.ofString x)) && (PyData.canLay0 (.int 20000) && true))) = true
    rw [h]
    decide +kernel
  rw [e]
  rfl
theorem dp_tm {K : PySem.W.Frag} {H : Hp} {a : Addr} {x : String} : Dp K (upd H a (.tup [.str "many", .str (Str.ofString x), .int 20000])) (.ref a) (tmD x) := .tup sqT_new (.cons (.str _) (.cons (.str _) (.cons (.int _) .nil)))
def combD (F G : Form) : PyData := if 20000 < perF F G then tmD "period" else if 20000 < (jb F G).2 - (jb F G).1 then tmD "middle" else .none
theorem shaped_comb (F G : Form) : SeqAt.shaped (combD F G) = true := by
  unfold combD
  split
  · exact shaped_tm (by decide +kernel)
  · split
    · exact shaped_tm (by decide +kernel)
    · rfl
section
variable {K : PySem.W.Frag} {C BN BR TM p o : Addr} {F G : Form} {H : Hp} {Q : VK} {E : XK}
theorem comb_run {R : Prop} (qe : ∀ C fs, Read K BN BR TM H C fs (combD F G) → Rz C fs H E) (r : combD F G = .none → R) : CombA K C TM F G H E R := by
  refine ⟨fun h => qe TM _ ?_, fun h => ⟨fun h2 => qe TM _ ?_, fun h2 => r ?_⟩⟩
  · unfold combD
    rw [if_pos h]
    exact .tm
  · unfold combD
    rw [if_neg (by omega), if_pos h2]
    exact .tm
  · unfold combD
    rw [if_neg (by omega), if_neg (by omega)]
theorem sign_run (hF : RF K C H p F) (hG : RF K C H o G) (qn : combD F G = .none → ∀ v H', Same H H' → Q v H') (qe : ∀ C fs, Read K BN BR TM H C fs (combD F G) → Rz C fs H E) :
    ∃ a b dx fs dy gs, V.ref p = .ref a ∧ V.ref o = .ref b ∧ H a = some (.ins C dx fs) ∧ H b = some (.ins C dy gs) ∧ spSign K C TM [.ref a, .ref b] H (fun v H' => (∃ p, v = .ref p) ∧ Q v H') E := by
  obtain ⟨dx1, b1, m1, a1, f1, _⟩ := hF.1.ex
  obtain ⟨dx2, b2, m2, a2, g1, _⟩ := hG.1.ex
  exact ⟨p, o, dx1, _, dx2, _, rfl, rfl, f1, g1, p, F, o, G, rfl, hF, hG, comb_run qe fun e D q H' s _ => ⟨⟨q, rfl⟩, qn e _ _ s⟩⟩
theorem ask_run (hF : RF K C H p F) (hG : RF K C H o G) (qn : combD F G = .none → ∀ v H', Same H H' → Q v H') (qe : ∀ C fs, Read K BN BR TM H C fs (combD F G) → Rz C fs H E) : spAsk K C TM [.ref p, .ref o] H Q E :=
  ⟨p, F, o, G, rfl, hF, hG, comb_run qe fun e c H' s => qn e _ _ s⟩
theorem rf_ins (hF : RF K C H p F) : ∃ dx b m a, H p = some (.ins C dx (fldR F.1 b m a)) :=
  let ⟨dx, b, m, a, f1, _⟩ := hF.1.ex
  ⟨dx, b, m, a, f1⟩
end
/-- a single number's form -/
theorem sf_just {n : Int} {F : Form} (h : SF n false [true] false F) : F = (n, [false], [true], [false]) := sf_uniq h (sf_full n false false (by simp) (by decide) (by decide))
theorem sf_up {n : Int} {F : Form} (h : SF n false [] true F) : F = (n, [false], [], [true]) := sf_uniq h (sf_step n (by decide))
theorem cm_one : cm 1 1 = 1 := by decide
theorem cm_r1 (m : Nat) : cm m 1 = m := by
  unfold cm
  rw [Nat.gcd_one_right, Nat.div_one, Nat.mul_one]
theorem cm_l1 (m : Nat) : cm 1 m = m := by
  unfold cm
  rw [Nat.gcd_one_left, Nat.div_one, Nat.one_mul]
theorem comb_just {n k : Int} (h : 0 ≤ k) : combD (n, [false], [true], [false]) (n + k, [false], [true], [false]) = if k + 1 ≤ 20000 then .none else tmD "middle" := by
  have hp : perF (n, [false], [true], [false]) (n + k, [false], [true], [false]) = 1 := by
    show max (cm 1 1) (cm 1 1) = 1
    rw [cm_one]
    rfl
  have hj : jb (n, [false], [true], [false]) (n + k, [false], [true], [false]) = (n, n + k + 1) := by
    unfold jb
    have t : ∀ x : Int, thrF (x, [false], [true], [false]) = false := fun x => by
      unfold thrF
      simp
    rw [if_neg (by rw [t]; decide), if_neg (by rw [t]; decide)]
    unfold endF
    show ((if n + k < n then n + k else n), (if n + k + 1 > n + 1 then n + k + 1 else n + 1)) = _
    rw [if_neg (by omega)]
    congr 1
    split <;> omega
  unfold combD
  rw [hp, hj, if_neg (by decide)]
  show (if 20000 < n + k + 1 - n then tmD "middle" else PyData.none) = _
  by_cases hk : k + 1 ≤ 20000
  · rw [if_pos hk, if_neg (by omega)]
  · rw [if_neg hk, if_pos (by omega)]
theorem comb_just' {n k : Int} (h : 0 ≤ k) : combD (n + k, [false], [true], [false]) (n, [false], [true], [false]) = if k + 1 ≤ 20000 then .none else tmD "middle" := by
  have hp : perF (n + k, [false], [true], [false]) (n, [false], [true], [false]) = 1 := by
    show max (cm 1 1) (cm 1 1) = 1
    rw [cm_one]
    rfl
  have hj : jb (n + k, [false], [true], [false]) (n, [false], [true], [false]) = (n, n + k + 1) := by
    unfold jb
    have t : ∀ x : Int, thrF (x, [false], [true], [false]) = false := fun x => by
      unfold thrF
      simp
    rw [if_neg (by rw [t]; decide), if_neg (by rw [t]; decide)]
    unfold endF
    show ((if n < n + k then n else n + k), (if n + 1 > n + k + 1 then n + 1 else n + k + 1)) = _
    rw [if_neg (show ¬ n + 1 > n + k + 1 by omega)]
    congr 1
    split <;> omega
  unfold combD
  rw [hp, hj, if_neg (by decide)]
  show (if 20000 < n + k + 1 - n then tmD "middle" else PyData.none) = _
  by_cases hk : k + 1 ≤ 20000
  · rw [if_pos hk, if_neg (by omega)]
  · rw [if_neg hk, if_pos (by omega)]
theorem thr_word (w : Row) : thrF (0, w, [], w) = true := by
  unfold thrF
  simp
/-- with a word throughout: the other's bounds -/
theorem comb_word {w : Row} {G : Form} (hw : w.length ≤ 20000) (hb : G.2.1.length = 1) (ha : G.2.2.2.length = 1) (hm : endF G - G.1 ≤ 20000) : combD (0, w, [], w) G = .none := by
  have hp : perF (0, w, [], w) G = w.length := by
    show max (cm w.length G.2.1.length) (cm w.length G.2.2.2.length) = _
    rw [hb, ha, cm_r1, Nat.max_self]
  unfold combD
  rw [hp, if_neg (by omega)]
  unfold jb
  rw [if_pos (thr_word w), if_neg (by show ¬ 20000 < endF G - G.1; omega)]
theorem comb_word' {w : Row} {G : Form} (hw : w.length ≤ 20000) (hb : G.2.1.length = 1) (ha : G.2.2.2.length = 1) (hm : endF G - G.1 ≤ 20000) (ht : thrF G = false) : combD G (0, w, [], w) = .none := by
  have hp : perF G (0, w, [], w) = w.length := by
    show max (cm G.2.1.length w.length) (cm G.2.2.2.length w.length) = _
    rw [hb, ha, cm_l1, Nat.max_self]
  unfold combD
  have hj : jb G (0, w, [], w) = (G.1, endF G) := by
    unfold jb
    rw [if_neg (by rw [ht]; decide), if_pos (thr_word w)]
  rw [hp, if_neg (by omega), hj, if_neg (by show ¬ 20000 < endF G - G.1; omega)]
theorem fok_word {m k : Nat} (hk : k < m) (hm : m ≤ 20000) : Fok (0, hot m k, [], hot m k) :=
  ⟨hot_ne (by omega), hot_ne (by omega), by show lstep (hot m k) = _; rw [lstep_hot hk, hot_length], by show lstep (hot m k) = _; rw [lstep_hot hk, hot_length], by show (hot m k).length ≤ _; rw [hot_length]; exact hm, by show (hot m k).length ≤ _; rw [hot_length]; exact hm, by show 0 ≤ 100000; decide⟩

section
variable {P : Program} {w : World} {K : PySem.W.Frag} {mg : Str → Option Value} {base : Heap}
theorem ok_ranges {C BN BR TM c : Addr} {TT : List (Addr × Str)} (h : HasT K mg "_law_ranges" s_law_ranges c) (TI : TabIn base mg TT "_law_ranges" (defScope s_law_ranges) c) (T : Tx K mg) (R : RC K mg C) (DN : Df P w K mg base 4 "_law_number" ["_law_pen_here"] (spNumber K)) (DD : Df P w K mg base 1 "_law_draw" ["_law_pen_here", "_law_many"] (spDraw K)) (DP : Df P w K mg base 2 "_law_pick" ["_law_pen_here", "_law_some"] (spPick K))
    (DW : DfG P w K mg base 9 "_law_why" ["_law_call"] (spWhy P w K mg base BN BR TM 8)) (DWS : DfG P w K mg base 10 "_law_whys" ["_law_calls", "_law_due_here"] (spWhys P w K mg base BN BR TM 8))
    (M2 : Df P w K mg base 6 "just" ["n"] (spMk1 K C BN fun n => SF n false [true] false)) (M3 : Df P w K mg base 6 "at_least" ["n"] (spMk1 K C BN fun n => SF n false [] true))
    (M5 : Df P w K mg base 6 "every" ["m", "r"] (spEvery K C BN)) (M6 : Df P w K mg base 6 "between" ["low", "high"] (spBetween K C BN TM)) (M7 : Df P w K mg base 7 "listed" ["row"] (spListed K C BR TM))
    (MO : Md P w K mg base C 7 "__or__" ["self", "other"] (spSign K C TM)) (MA : Md P w K mg base C 7 "__and__" ["self", "other"] (spSign K C TM)) (MS : Md P w K mg base C 7 "__sub__" ["self", "other"] (spSign K C TM)) (MW : Md P w K mg base C 7 "within" ["self", "other"] (spAsk K C TM)) :
    DfG P w K mg base 12 "_law_ranges" ["_law_pen_here"] (spPenT K TT 500000 30) := by
  obtain ⟨Pt, TB, hmT, huT⟩ := TI.ex
  obtain ⟨fo, fdo, mo, Fo, bo⟩ := MO.ex
  obtain ⟨fa, fda, ma, Fa, ba⟩ := MA.ex
  obtain ⟨fs, fds, ms, Fs, bs⟩ := MS.ex
  refine h.dfG c_law_ranges (fun _ _ _ _ _ _ us hl => match us, hl with | [_], _ => rfl) (fun vs H Q E ⟨_, _, e, _⟩ => by rw [e]; rfl) fun f A outer s H vs Q E hr hg hs => ?_
  obtain ⟨d, k, rfl, hk, hp, hTT, q⟩ := hs
  have hr1 := hr.mono (show 1 ≤ 11 by decide)
  have hr2 := hr.mono (show 2 ≤ 11 by decide)
  have hr4 := hr.mono (show 4 ≤ 11 by decide)
  have hr6 := hr.mono (show 6 ≤ 11 by decide)
  have hr9 := hr.mono (show 9 ≤ 11 by decide)
  have hr10 := hr.mono (show 10 ≤ 11 by decide)
  refine ⟨_, (pss_cons (ps_asg (pe_tup (pa_cons (pe_df DN hr4 passL (by rfl) (pa_cons (pv 0) pa_nil)) (pa_cons (pe_df DP hr2 passL (by rfl) (pa_cons (pv 0) (pa_cons (pe_lst (pa_cons pe_int (pa_cons pe_int (pa_cons pe_int pa_nil)))) pa_nil))) pa_nil))) (pg_tup rfl (pgs_cons (pg_name (i := 1) c_law_ranges.nd rfl (.inr rfl)) (pgs_cons (pg_name (i := 2) c_law_ranges.nd rfl (.inr rfl)) pgs_nil))))
    (pss_cons (ps_set (i := 3) c_law_ranges.nd rfl (.inl rfl) (pe_ifExp (pt_cmpR op_eq (pv 2) pe_int (nomark _)) pe_non (pe_tup (pa_cons pe_str (pa_cons pe_str (pa_cons pe_int pa_nil))))))
    (pss_cons (ps_if (pt_cmpR (op_neD hr.units) (pe_lendG DW hr9 hg (fun _ => rfl) (by rfl) (pa_cons (pe_lamN TB rfl hmT huT rfl (lam_free (ps := []) (sc := defScope s_law_ranges) (lamP_by (by decide +kernel)))) pa_nil)) (pv 3) (nomark _)) (pss_one (ps_ret pe_bl)) pss_nil)
    (pss_cons (ps_if (pt_cmpR (op_neD hr.units) (pe_lendG DW hr9 hg (fun _ => rfl) (by rfl) (pa_cons (pe_lamN TB rfl hmT huT rfl (lam_free (ps := []) (sc := defScope s_law_ranges) (lamP_by (by decide +kernel)))) pa_nil)) (pv 3) (nomark _)) (pss_one (ps_ret pe_bl)) pss_nil)
    (pss_cons (ps_asg (pe_tup (pa_cons (pe_df M2 hr6 passL (by rfl) (pa_cons (pv 1) pa_nil)) (pa_cons (pe_df M2 hr6 passL (by rfl) (pa_cons (pe_op op_add (pe_op op_add (pv 1) pe_int) (pv 2)) pa_nil)) pa_nil))) (pg_tup rfl (pgs_cons (pg_name (i := 4) c_law_ranges.nd rfl (.inr rfl)) (pgs_cons (pg_name (i := 5) c_law_ranges.nd rfl (.inr rfl)) pgs_nil))))
    (pss_cons (ps_set (i := 6) c_law_ranges.nd rfl (.inl rfl) (pe_lst (pa_cons (pe_lamN TB rfl hmT huT rfl (lam_free (ps := []) (sc := defScope s_law_ranges) (lamP_by (by decide +kernel)))) (pa_cons (pe_lamN TB rfl hmT huT rfl (lam_free (ps := []) (sc := defScope s_law_ranges) (lamP_by (by decide +kernel)))) pa_nil))))
    (pss_cons (ps_if (pt_not (pt_val (pe_lendG DWS hr10 hg (fun _ => rfl) (by rfl) (pa_cons (pv 6) (pa_cons (pv 3) pa_nil))))) (pss_one (ps_ret pe_bl)) pss_nil)
    (pss_cons (ps_set (i := 7) c_law_ranges.nd rfl (.inr rfl) (pe_df M5 hr6 passL (by rfl) (pa_cons (pe_op op_add pe_int (pe_df DD hr1 passL (by rfl) (pa_cons (pv 0) (pa_cons pe_int pa_nil)))) (pa_cons (pe_df DD hr1 passL (by rfl) (pa_cons (pv 0) (pa_cons pe_int pa_nil))) pa_nil))))
    (pss_cons (ps_set (i := 6) c_law_ranges.nd rfl (.inl rfl) (pe_lst (pa_cons (pe_lamN TB rfl hmT huT rfl (lam_free (ps := []) (sc := defScope s_law_ranges) (lamP_by (by decide +kernel)))) (pa_cons (pe_lamN TB rfl hmT huT rfl (lam_free (ps := []) (sc := defScope s_law_ranges) (lamP_by (by decide +kernel)))) pa_nil))))
    (pss_one (ps_ret (pe_lendG DWS hr10 hg (fun _ => rfl) (by rfl) (pa_cons (pv 6) (pa_cons pe_non pa_nil)))))))))))))), ?_⟩
  refine ⟨_, rfl, d, k, rfl, by omega, hp, fun n H1 d1 p1 => ⟨_, rfl, (by show 3 ≤ sizeLine; decide), fun l2 n2 => ?_⟩⟩
  have s2 := same_upd (o := .lst [.int 0, .int 1, .int 1]) n2
  refine ⟨d, l2, _, k + 18, rfl, sqL_new, (by simp), (by show 3 ≤ 1000000; decide), by omega, p1.same s2, fun j x H3 hj d3 p3 => ?_⟩
  obtain ⟨more, hm1, rfl⟩ : ∃ m : Nat, m ≤ 1 ∧ x = .int m := by
    match j, hj with
    | 0, e => exact ⟨0, by decide, (Option.some.inj e).symm⟩
    | 1, e => exact ⟨1, by decide, (Option.some.inj e).symm⟩
    | 2, e => exact ⟨1, by decide, (Option.some.inj e).symm⟩
    | j + 3, e => simp at e
  refine ⟨(by show 2 ≤ sizeLine; decide), fun t4 n4 => ⟨t4, _, rfl, sqT_new, rfl, _, _, rfl, _, _, rfl, rfl, ?_⟩⟩
  have s4 := same_upd (o := .tup [.int n, .int more]) n4
  have d04 := d1.trans ((Same.nd s2).trans (d3.trans (Same.nd s4)))
  have p4 := p3.same s4
  generalize upd H3 t4 (.tup [.int n, .int more]) = H4 at d04 p4
  have t4 := tabs_nd hTT d04
  -- what is due
  obtain ⟨du, hdu⟩ : ∃ du : PyData, du = if more = 0 then .none else tmD "middle" := ⟨_, rfl⟩
  have shu : SeqAt.shaped du = true := by
    rw [hdu]
    split
    · rfl
    · exact shaped_tm (by decide +kernel)
  refine ⟨_, rfl, rfl, _, rfl, ?_⟩
  refine ifE_by (A := fun Q => L2.tC .non _ _ Q) (B := fun Q => tTup _ _ _ Q) (R := fun v H' => Same H4 H' ∧ Dp K H' v du) (fun hi Q' hq => ?_) (fun hi Q' hq => ?_) (fun dv H5 hR5 => ?_)
  · have e0 : more = 0 := by
      have z := V.int.inj (of_decide_eq_true hi)
      omega
    exact hq _ _ ⟨Same.refl _, by rw [hdu, if_pos e0]; exact .non⟩
  · have e0 : more ≠ 0 := fun z => of_decide_eq_false hi (by rw [z]; rfl)
    refine ⟨(by show 3 ≤ sizeLine; decide), fun p np => hq _ _ ⟨same_upd np, ?_⟩⟩
    rw [hdu, if_neg e0]
    exact dp_tm
  obtain ⟨s5, dv5⟩ := hR5
  -- between
  refine ⟨t4.ext s5, fun f1 c1 Ha H6 xa na ea t6 ca => ?_⟩
  obtain ⟨x6, l1⟩ := lam_facts xa na ea ca
  clear xa na ea ca
  have n46 := (Same.nt s5).trans x6
  have dv6 := dp_kp dv5 x6.kp
  refine fun L Lt hno => ⟨f1, du, rfl, ?_, fun v7 H7 s7 hv7 => ?_⟩
  · exact gives_lam (k := 7) (N' := ["_law_n", "_law_more"]) (τ := [some (.int n), some (.int more)]) l1 hno Lt (lamP_by (sc := defScope s_law_ranges) (by decide +kernel)) (by decide) (tk_cons 1 rfl rfl (tk_cons 2 rfl rfl tk_nil)) rfl (fun _ _ _ _ _ => rfl) (fun c' A' o' s' H' E' hr' => pe_df M6 (hr'.mono (by decide)) (thru rfl rfl rfl rfl) (by rfl) (pa_cons (pv 0) (pa_cons (pe_op op_add (pe_op op_add (pv 0) pe_int) (pv 1)) pa_nil)))
      (fun H' Q' E' s' qn qe => ⟨_, rfl, _, rfl, _, _, rfl, rfl, _, rfl, _, _, rfl, rfl, .int n, .int n, _, .int (n + 19999 + (more : Int)), rfl, .int _, .int _, fun z => (by cases z), fun _ z => (by cases z), fun lo hi e1 e2 => by
        obtain rfl := PyData.int.inj e1
        obtain rfl := PyData.int.inj e2
        have hmn : manyN n (n + 19999 + (more : Int)) = 20000 + more := by unfold manyN; omega
        refine ⟨fun z => qe TM _ ?_, fun z F p H'' _ s'' _ => qn ?_ _ _ s''⟩
        · rw [hdu, if_neg (by omega)]
          exact .tm
        · rw [hdu, if_pos (by omega)]⟩)
  have s7' := same_unl hno s7
  have hv7 := Dp.unl (lies_lend.same s7) _ _ hv7
  refine ⟨_, rfl, _, _, hv7, dp_same dv6 s7', shu, shu, _, rfl, ?_⟩
  rw [eqv_shaped shu]
  refine iteF ?_
  have n48 : NT H4 _ := n46.trans (Same.nt s7')
  have t8 : LamX.Tabs TT _ := t6.ext s7'
  have dv8 := dp_same dv6 s7'
  dsimp only
  generalize unl L H7 = H8 at n48 t8 dv8 ⊢
  clear hv7 s7' s7 dv6 n46 hno Lt L l1 x6
  -- listed
  refine ⟨t8, fun f2 c2 Ha H9 xa na ea t9 ca => ?_⟩
  obtain ⟨x9, l2⟩ := lam_facts xa na ea ca
  clear xa na ea ca
  have dv9 := dp_kp dv8 x9.kp
  refine fun L Lt hno => ⟨f2, du, rfl, ?_, fun v10 H10 s10 hv10 => ?_⟩
  · exact gives_lam (k := 7) (N' := ["_law_n", "_law_more"]) (τ := [some (.int n), some (.int more)]) l2 hno Lt (lamP_by (sc := defScope s_law_ranges) (by decide +kernel)) (by decide) (tk_cons 1 rfl rfl (tk_cons 2 rfl rfl tk_nil)) rfl (fun _ _ _ _ _ => rfl) (fun c' A' o' s' H' E' hr' => pe_df M7 (hr'.mono (by decide)) (thru rfl rfl rfl rfl) (by rfl) (pa_cons (pe_lst (pa_cons (pe_op op_add (pe_op op_add (pv 0) pe_int) (pv 1)) (pa_cons (pv 0) (pa_cons (pe_op op_add (pv 0) pe_int) pa_nil)))) pa_nil))
      (fun H' Q' E' s' qn qe => ⟨_, rfl, _, _, rfl, rfl, _, rfl, _, _, rfl, rfl, _, rfl, _, rfl, _, _, rfl, rfl, (by show 3 ≤ sizeLine; decide), fun la na => by
        have sa := same_upd (o := .lst ([n + 19999 + (more : Int), n, n + 5].map V.int)) na
        refine ⟨_, rfl, .inl ⟨la, [n + 19999 + (more : Int), n, n + 5], rfl, .inl sqL_new, (by show 3 ≤ sizeLine; decide), fun z => (by cases z), fun lo hi m1 m2 b1 b2 => ?_⟩⟩
        have c1 := b1 n (by simp)
        have c2 := b2 (n + 19999 + (more : Int)) (by simp)
        simp only [List.mem_cons, List.not_mem_nil, or_false] at m1 m2
        have e1 : lo = n := by omega
        have e2 : hi = n + 19999 + (more : Int) := by omega
        refine ⟨fun z => Rz.same (qe TM _ ?_) sa, fun z F p H'' _ s'' _ => qn ?_ _ _ (sa.trans s'')⟩
        · rw [hdu, if_neg (by omega)]
          exact .tm
        · rw [hdu, if_pos (by omega)]⟩)
  have s10' := same_unl hno s10
  have hv10 := Dp.unl (lies_lend.same s10) _ _ hv10
  refine ⟨_, rfl, _, _, hv10, dp_same dv9 s10', shu, shu, _, rfl, ?_⟩
  rw [eqv_shaped shu]
  refine iteF ?_
  have n411 : NT H4 _ := n48.trans (x9.trans (Same.nt s10'))
  have t11 : LamX.Tabs TT _ := t9.ext s10'
  have dv11 := dp_same dv9 s10'
  dsimp only
  generalize unl L H10 = H11 at n411 t11 dv11 ⊢
  clear hv10 s10' s10 dv9 hno Lt L l2 x9
  -- one and other
  refine ⟨_, rfl, _, _, rfl, .int n, fun n' e1 F1 r1 H12 hF1 s12 hR1 => ⟨_, rfl, _, _, rfl, rfl, _, rfl, _, _, rfl, rfl, _, _, rfl, .int _, fun n'' e2 F2 r2 H13 hF2 s13 hR2 => ⟨(by show 2 ≤ sizeLine; decide), fun t14 n14 => ⟨t14, _, rfl, sqT_new, rfl, _, _, rfl, _, _, rfl, rfl, ?_⟩⟩, fun z => (by cases z)⟩, fun z => (by cases z)⟩
  obtain rfl := PyData.int.inj e1
  obtain rfl := PyData.int.inj e2
  have ok1 := fok_sf (by show 1 ≤ 100000; decide) hF1
  have ok2 := fok_sf (by show 1 ≤ 100000; decide) hF2
  obtain rfl := sf_just hF1
  have e2' : F2 = (n + (19999 + (more : Int)), [false], [true], [false]) := by
    rw [sf_just hF2, Int.add_assoc]
  subst e2'
  have s14 := same_upd (o := .tup [.ref r1, .ref r2]) n14
  have R1 : RF K C _ r1 _ := ⟨hR1.same (s13.trans s14), ok1⟩
  have R2 : RF K C _ r2 _ := ⟨hR2.same s14, ok2⟩
  have s1114 := s12.trans (s13.trans s14)
  have n414 := n411.trans (Same.nt s1114)
  have t14' := t11.ext s1114
  have dv14 := dp_same dv11 s1114
  generalize upd H13 t14 (.tup [.ref r1, .ref r2]) = H14 at R1 R2 n414 t14' dv14
  clear s1114 s14 n14 s13 s12 hR1 hR2 hF1 hF2
  refine ⟨t14', fun f3 c3 Ha H15 xa na ea t15 ca => ⟨t15, fun f4 c4 Hb H16 xb nb eb t16 cb => ?_⟩⟩
  obtain ⟨x15, l3⟩ := lam_facts xa na ea ca
  obtain ⟨x16, l4⟩ := lam_facts xb nb eb cb
  clear xa na ea ca xb nb eb cb
  refine ⟨(by show 2 ≤ sizeLine; decide), fun l17 n17 => ?_⟩
  have s17 := same_upd (o := .lst [.ref f3, .ref f4]) n17
  have n1417 := x15.trans (x16.trans (Same.nt s17))
  have R1' := R1.kp n1417.kp
  have R2' := R2.kp n1417.kp
  have dv17 := dp_kp dv14 n1417.kp
  have cd1 : combD (n, [false], [true], [false]) (n + (19999 + (more : Int)), [false], [true], [false]) = du := by
    rw [comb_just (by omega), hdu]
    by_cases e0 : more = 0
    · rw [if_pos e0, if_pos (by omega)]
    · rw [if_neg e0, if_neg (by omega)]
  have cd2 : combD (n + (19999 + (more : Int)), [false], [true], [false]) (n, [false], [true], [false]) = du := by
    rw [comb_just' (by omega), hdu]
    by_cases e0 : more = 0
    · rw [if_pos e0, if_pos (by omega)]
    · rw [if_neg e0, if_neg (by omega)]
  refine ⟨_, rfl, _, rfl, fun L Lt hno => ⟨l17, dv, [f3, f4], du, rfl, sqL_same sqL_new (lend_same hno), (by show 2 ≤ 1000; decide), fun g hg' => ?_, dp_same dv17 (lend_same hno), shu, fun H18 s18 => ?_⟩⟩
  · simp only [List.mem_cons, List.not_mem_nil, or_false] at hg'
    rcases hg' with rfl | rfl
    · exact gives_lam (k := 7) (N' := ["_law_one", "_law_other"]) (τ := [some (.ref r1), some (.ref r2)]) (l3.nt (x16.trans (Same.nt s17))) hno Lt (lamP_by (sc := defScope s_law_ranges) (by decide +kernel)) (by decide) (tk_cons 4 rfl rfl (tk_cons 5 rfl rfl tk_nil)) rfl (fun _ _ _ _ _ => rfl) (fun c' A' o' s' H' E' hr' => pe_op (bin_own rfl R.sf mo Fo hr' bo (thru rfl rfl rfl rfl)) (pv 0) (pv 1))
        (fun H' Q' E' s' qn qe => ⟨_, rfl, _, rfl, sign_run (R1'.same s') (R2'.same s') (fun e => qn (cd1 ▸ e)) (fun C fs r => qe C fs (cd1 ▸ r))⟩)
    · exact gives_lam (k := 7) (N' := ["_law_one", "_law_other"]) (τ := [some (.ref r1), some (.ref r2)]) (l4.nt (Same.nt s17)) hno Lt (lamP_by (sc := defScope s_law_ranges) (by decide +kernel)) (by decide) (tk_cons 4 rfl rfl (tk_cons 5 rfl rfl tk_nil)) rfl (fun _ _ _ _ _ => rfl) (fun c' A' o' s' H' E' hr' => pe_md MW R.cl hr' (thru rfl rfl rfl rfl) (pv 1) (pa_cons (pv 0) pa_nil))
        (fun H' Q' E' s' qn qe => by
          obtain ⟨dx, b, m, a, e⟩ := rf_ins (R2'.same s')
          exact ⟨_, rfl, r2, dx, _, rfl, e, rfl, _, rfl, ask_run (R2'.same s') (R1'.same s') (fun e => qn (cd2 ▸ e)) (fun C fs r => qe C fs (cd2 ▸ r))⟩)
  have s18' := s17.trans (same_unl hno s18)
  refine ⟨_, rfl, ?_⟩
  refine iteF ?_
  have n419 : NT H4 _ := n414.trans (x15.trans (x16.trans (Same.nt s18')))
  have t19 : LamX.Tabs TT _ := t16.ext s18'
  have R2'' := R2.kp (x15.trans (x16.trans (Same.nt s18'))).kp
  dsimp only
  generalize unl L H18 = H19 at n419 t19 R2'' ⊢
  clear s18' s18 R1' R2' dv17 n1417 s17 n17 l3 l4 x15 x16 hno Lt L R1 R2 dv14 t14' n414
  -- wide
  have p19 := p4.nt n419
  refine ⟨_, rfl, d, 6, k + 19, rfl, by decide, by decide, by omega, p19, fun a H20 ha d20 p20 => ⟨_, _, rfl, rfl, _, rfl, d, 6, k + 20, rfl, by decide, by decide, by omega, p20, fun b H21 hb d21 p21 => ⟨_, _, _, _, rfl, .int _, .int _, fun z => (by cases z), fun m' e z => ?_, fun m' e _ _ => ⟨fun z => (by cases z), fun r' e' pw H22 s22 hRw => ?_⟩⟩⟩⟩
  · obtain rfl := PyData.int.inj e
    exact absurd (show 1 ≤ 1 + (a : Int) ∧ 1 + (a : Int) ≤ 20000 by omega) z
  have hm' : 1 + (a : Int) = (m' : Int) := PyData.int.inj e
  obtain rfl := PyData.int.inj e'
  have hbm : ((b : Int) % (m' : Int)).toNat < m' := by
    have h1 := Int.emod_lt_of_pos (b : Int) (show (0 : Int) < m' by omega)
    omega
  have Rw : RF K C H22 pw _ := ⟨hRw, fok_word hbm (by omega)⟩
  have d22 := d20.trans (d21.trans (Same.nd s22))
  have t22 := tabs_nd t19 d22
  have Ro := R2''.kp d22.kp
  have p22 := p21.same s22
  have k22 : KP H H22 := d04.kp.trans (n419.kp.trans d22.kp)
  refine ⟨t22, fun f5 c5 Ha H23 xa na ea t23 ca => ⟨t23, fun f6 c6 Hb H24 xb nb eb t24 cb => ?_⟩⟩
  obtain ⟨x23, l5⟩ := lam_facts xa na ea ca
  obtain ⟨x24, l6⟩ := lam_facts xb nb eb cb
  clear xa na ea ca xb nb eb cb
  refine ⟨(by show 2 ≤ sizeLine; decide), fun l25 n25 => ?_⟩
  have s25 := same_upd (o := .lst [.ref f5, .ref f6]) n25
  have n2225 := x23.trans (x24.trans (Same.nt s25))
  have Rw' := Rw.kp n2225.kp
  have Ro' := Ro.kp n2225.kp
  have hwl : (hot m' ((b : Int) % (m' : Int)).toNat).length ≤ 20000 := by rw [hot_length]; omega
  have cd3 : combD (0, hot m' ((b : Int) % (m' : Int)).toNat, [], hot m' ((b : Int) % (m' : Int)).toNat) (n + (19999 + (more : Int)), [false], [true], [false]) = .none := comb_word hwl rfl rfl (by
    unfold endF
    show n + (19999 + (more : Int)) + 1 - (n + (19999 + (more : Int))) ≤ 20000
    omega)
  refine ⟨_, rfl, fun L Lt hno => ⟨l25, .non, [f5, f6], .none, rfl, sqL_same sqL_new (lend_same hno), (by show 2 ≤ 1000; decide), fun g hg' => ?_, .non, rfl, fun H26 s26 => ?_⟩⟩
  · simp only [List.mem_cons, List.not_mem_nil, or_false] at hg'
    rcases hg' with rfl | rfl
    · exact gives_lam (k := 7) (N' := ["_law_wide", "_law_other"]) (τ := [some (.ref pw), some (.ref r2)]) (l5.nt (x24.trans (Same.nt s25))) hno Lt (lamP_by (sc := defScope s_law_ranges) (by decide +kernel)) (by decide) (tk_cons 7 rfl rfl (tk_cons 5 rfl rfl tk_nil)) rfl (fun _ _ _ _ _ => rfl) (fun c' A' o' s' H' E' hr' => pe_op (bin_own rfl R.sf ma Fa hr' ba (thru rfl rfl rfl rfl)) (pv 0) (pv 1))
        (fun H' Q' E' s' qn qe => ⟨_, rfl, _, rfl, sign_run (Rw'.same s') (Ro'.same s') (fun e => qn rfl) (fun C fs r => qe C fs (cd3 ▸ r))⟩)
    · exact gives_lam (k := 7) (N' := ["_law_n", "_law_wide"]) (τ := [some (.int n), some (.ref pw)]) (l6.nt (Same.nt s25)) hno Lt (lamP_by (sc := defScope s_law_ranges) (by decide +kernel)) (by decide) (tk_cons 1 rfl rfl (tk_cons 7 rfl rfl tk_nil)) rfl (fun _ _ _ _ _ => rfl) (fun c' A' o' s' H' E' hr' => pe_op (bin_own rfl R.sf ms Fs hr' bs (thru rfl rfl rfl rfl)) (pe_df M3 (hr'.mono (by decide)) passL (by rfl) (pa_cons (pe_op op_add (pv 0) (pe_op op_pow pe_int pe_int)) pa_nil)) (pv 1))
        (fun H' Q' E' s' qn qe => ⟨_, rfl, _, _, rfl, rfl, ⟨by decide, by decide, by decide⟩, _, _, rfl, rfl, _, _, rfl, .int _, fun n2 e2 F p H'' hF s'' hR => by
          obtain rfl := sf_up hF
          have okF : Fok (n2, [false], [], [true]) := fok_sf (by show 0 ≤ 100000; decide) hF
          have cd4 : combD (n2, [false], [], [true]) (0, hot m' ((b : Int) % (m' : Int)).toNat, [], hot m' ((b : Int) % (m' : Int)).toNat) = .none := comb_word' hwl rfl rfl (by
            unfold endF
            show n2 + 0 - n2 ≤ 20000
            omega) (by unfold thrF; simp)
          exact ⟨_, rfl, sign_run (BN := BN) (BR := BR) ⟨hR, okF⟩ ((Rw'.same s').same s'') (fun e v H3 s3 => qn rfl v H3 (s''.trans s3)) (fun C fs r => (qe C fs (by
            rw [cd4] at r
            cases r)).same s'')⟩, fun z => (by cases z)⟩)
  have s26' := s25.trans (same_unl hno s26)
  exact q _ (k22.trans (x23.kp.trans (x24.kp.trans (Same.kp s26')))) (((p22.nt (x23.trans x24)).same s26').le (by omega)) (t24.ext s26')
end
end Rk
set_option maxHeartbeats 4000000
/-! The law's defs, tenth part: _law_steps. -/
namespace Rk
open PySem PySem.Spec PyProof.Rows L2

/-- one truth of n, above or below -/
structure Hot (up : Bool) (s : Int) (n : Nat) (F : Form) : Prop where
  st : F.1 = s - (n - 1)
  mid : F.2.2.1 = []
  lb : F.2.1.length = if up then 1 else n
  la : F.2.2.2.length = if up then n else 1
theorem hot_up {s : Int} {n : Nat} (hn : 1 < n) {F : Form} (h : OneForm s [false] [] (hot n 0) F) : Hot true s n F := by
  obtain ⟨h1, h2, _⟩ := form_rows (by simp) (hot_ne (by omega)) h
  exact ⟨form_up hn h, form_nomid h, by rw [h1, lstep_one]; rfl, by rw [h2, lstep_hot (by omega)]; rfl⟩
theorem hot_down {s : Int} {n : Nat} (hn : 1 < n) {F : Form} (h : OneForm s (hot n 0) [] [false] F) : Hot false s n F := by
  obtain ⟨h1, h2, _⟩ := form_rows (hot_ne (by omega)) (by simp) h
  exact ⟨form_down hn h, form_nomid h, by rw [h1, lstep_hot (by omega)]; rfl, by rw [h2, lstep_one]; rfl⟩
theorem Hot.fok {up : Bool} {s : Int} {n : Nat} {F : Form} {b a : Row} (hb : b ≠ []) (ha : a ≠ []) (zb : b.length ≤ 20000) (za : a.length ≤ 20000) (h : OneForm s b [] a F) : Fok F := fok_of hb ha zb za (by show 0 ≤ 100000; decide) h
theorem Hot.thr {up : Bool} {s : Int} {n : Nat} {F : Form} (hn : 1 < n) (h : Hot up s n F) : thrF F = false := by
  unfold thrF
  have e : F.2.1 ≠ F.2.2.2 := fun z => by
    have h1 := h.lb
    rw [z, h.la] at h1
    cases up <;> simp at h1 <;> omega
  rw [decide_eq_false e, Bool.and_false, Bool.and_false]
theorem Hot.comb {up : Bool} {s t : Int} {n m : Nat} {F G : Form} (hn : 1 < n) (hm : 1 < m) (hF : Hot up s n F) (hG : Hot up t m G) (h1 : (s - (n - 1)) - (t - (m - 1)) ≤ 20000) (h2 : (t - (m - 1)) - (s - (n - 1)) ≤ 20000) (hc : 1 ≤ cm n m) : combD F G = dueD (cm n m : Nat) := by
  have hp : perF F G = cm n m := by
    unfold perF
    rw [hF.lb, hF.la, hG.lb, hG.la]
    cases up
    · show max (cm n m) (cm 1 1) = _
      rw [cm_one]
      omega
    · show max (cm 1 1) (cm n m) = _
      rw [cm_one]
      omega
  have hj : (jb F G).2 - (jb F G).1 ≤ 20000 := by
    unfold jb
    rw [if_neg (by rw [hF.thr hn]; decide), if_neg (by rw [hG.thr hm]; decide)]
    unfold endF
    rw [hF.mid, hG.mid, hF.st, hG.st]
    show (if t - ((m : Int) - 1) + 0 > s - ((n : Int) - 1) + 0 then t - ((m : Int) - 1) + 0 else s - ((n : Int) - 1) + 0) - (if t - ((m : Int) - 1) < s - ((n : Int) - 1) then t - ((m : Int) - 1) else s - ((n : Int) - 1)) ≤ 20000
    split <;> split <;> omega
  unfold combD dueD
  rw [hp]
  by_cases h : 20000 < cm n m
  · rw [if_pos h, if_pos (by omega)]
    rfl
  · rw [if_neg h, if_neg (by omega), if_neg (by omega)]
theorem cm_comm (n m : Nat) (hn : 0 < n) : cm n m = cm m n := by
  unfold cm
  rw [Nat.gcd_comm m n]
  have h1 := Nat.gcd_dvd_left n m
  have h2 := Nat.gcd_dvd_right n m
  rw [Nat.div_mul_right_comm h1, Nat.div_mul_right_comm h2, Nat.mul_comm]

theorem rounds_madeA {K : PySem.W.Frag} {C : Addr} {H : Hp} {s : Int} {b m a : Addr} {rb rm ra : Row} {Qd : Addr → Hp → Prop} (hb : SqT K H b (bls rb)) (hm : SqL K H m (bls rm) ∨ SqT K H m (bls rm)) (ha : SqT K H a (bls ra)) (nb : rb ≠ []) (na : ra ≠ []) (zb : rb.length ≤ sizeLine) (zm : rm.length ≤ sizeLine) (za : ra.length ≤ sizeLine)
    (q : ∀ F p H', OneForm s rb rm ra F → Same H H' → Rou K C H' p F → Qd p H') :
    ∀ x dx, H x = none → H dx = none → dx ≠ x → spRi K C [.ref x, .int s, .ref b, .ref m, .ref a] (upd (upd H dx (.own x)) x (.ins C dx [])) (fun v H2 => v = .non ∧ Qd x H2) E0 := fun x dx nx nd ne => by
  have s1 : Same H (upd (upd H dx (.own x)) x (.ins C dx [])) := fun c o e => by
    rw [upd_ne (ne_of_none e nx), upd_ne (ne_of_none e nd)]
    exact e
  exact ⟨x, dx, s, b, m, a, rb, rm, ra, rfl, upd_same, sqT_same hb s1, hm.imp (fun z => sqL_same z s1) (fun z => sqT_same z s1), sqT_same ha s1, nb, na, zb, zm, za, fun F H' hF hR k => ⟨rfl, q F x H' hF (fun c o e => k c o (s1 c o e) (ne_of_none e nx)) hR⟩⟩
theorem and_by {A : (Bool → Hp → Prop) → Prop} {b : Bool} {R : Hp → Prop} {H0 : Hp} {Q : Bool → Hp → Prop} (hb : b = false → R H0) (ha : b = true → ∀ Q : Bool → Hp → Prop, (∀ H', R H' → Q false H') → A Q) (h : ∀ H', R H' → Q false H') : if b = true then A Q else Q false H0 := by
  cases b with
  | true => exact iteT (ha rfl Q h)
  | false => exact iteF (h _ (hb rfl))
theorem shaped_due (n : Int) : SeqAt.shaped (dueD n) = true := by
  unfold dueD
  split
  · exact shaped_tm (x := "period") (by decide +kernel)
  · rfl
/-! ### the four pairs -/
def stepP (n m l : Nat) : Prop := (n = 177 ∧ m = 113 ∧ l = 20001) ∨ (n = 32 ∧ m = 625 ∧ l = 20000) ∨ (n = 150 ∧ m = 140 ∧ l = 2100) ∨ (n = 400 ∧ m = 200 ∧ l = 400)
theorem step_cm {n m l : Nat} (h : stepP n m l) : cm n m = l ∧ cm m n = l := by
  rcases h with ⟨rfl, rfl, rfl⟩ | ⟨rfl, rfl, rfl⟩ | ⟨rfl, rfl, rfl⟩ | ⟨rfl, rfl, rfl⟩ <;> decide
theorem step_sz {n m l : Nat} (h : stepP n m l) : 1 < n ∧ n ≤ 700 ∧ 1 < m ∧ m ≤ 700 ∧ 1 ≤ l := by
  rcases h with ⟨rfl, rfl, rfl⟩ | ⟨rfl, rfl, rfl⟩ | ⟨rfl, rfl, rfl⟩ | ⟨rfl, rfl, rfl⟩ <;> decide
section
variable {P : Program} {w : World} {K : PySem.W.Frag} {mg : Str → Option Value} {base : Heap}
def spSteps (K : PySem.W.Frag) (TT : List (Addr × Str)) : Sp := fun vs H Q _ => ∃ (d : Addr) (k way : Nat), vs = [.ref d, .int way] ∧ way < 2 ∧ k ≤ 500000 ∧ Pen K H d k ∧ LamX.Tabs TT H ∧ ∀ H', KP H H' → Pen K H' d (k + 10) → LamX.Tabs TT H' → Q (.bl true) H'
theorem ok_steps {C TM BN BR c : Addr} {TT : List (Addr × Str)} (h : HasT K mg "_law_steps" s_law_steps c) (TI : TabIn base mg TT "_law_steps" (defScope s_law_steps) c) (T : Tx K mg) (R : RC K mg C) (DP : Df P w K mg base 2 "_law_pick" ["_law_pen_here", "_law_some"] (spPick K)) (DU : Df P w K mg base 1 "_law_due" ["_law_many"] (spDue K))
    (DW : DfG P w K mg base 9 "_law_why" ["_law_call"] (spWhy P w K mg base BN BR TM 8)) (DW9 : DfG P w K mg base 10 "_law_why" ["_law_call"] (spWhy P w K mg base BN BR TM 9)) (DWS : DfG P w K mg base 10 "_law_whys" ["_law_calls", "_law_due_here"] (spWhys P w K mg base BN BR TM 8)) (CK : Ck P w K mg base "Rounds" C 4 ["self", "start", "below", "middle", "above"] (spRi K C))
    (MA : Md P w K mg base C 7 "__and__" ["self", "other"] (spSign K C TM)) (MP : Md P w K mg base C 7 "apart" ["self", "other"] (spAsk K C TM)) (MN : Md P w K mg base C 6 "__neg__" ["self"] (spNeg K C)) (MSp : Md P w K mg base C 8 "spread" ["self", "k", "r"] (spSpread K C TM false))
    (DSu : Df P w K mg base 3 "sums" ["one", "other"] (spSums K C TM)) (DSh : Df P w K mg base 7 "shifts" ["one", "other"] (spShifts K C TM)) :
    DfG P w K mg base 12 "_law_steps" ["_law_pen_here", "_law_way"] (spSteps K TT) := by
  obtain ⟨Pt, TB, hmT, huT⟩ := TI.ex
  obtain ⟨fa, fda, ma, Fa, ba⟩ := MA.ex
  obtain ⟨fn, fdn, mn, Fn, bn⟩ := MN.ex
  refine h.dfG c_law_steps (fun _ _ _ _ _ _ us hl => match us, hl with | [_, _], _ => rfl) (fun vs H Q E ⟨_, _, _, e, _⟩ => by rw [e]; rfl) fun f A outer s H vs Q E hr hg hs => ?_
  obtain ⟨d, k, way, rfl, hway, hk, hp, hTT, q⟩ := hs
  have hr1 := hr.mono (show 1 ≤ 11 by decide)
  have hr2 := hr.mono (show 2 ≤ 11 by decide)
  have hr5 := hr.mono (show 5 ≤ 11 by decide)
  have hr9 := hr.mono (show 9 ≤ 11 by decide)
  have hr10 := hr.mono (show 10 ≤ 11 by decide)
  refine ⟨_, (pss_cons (ps_asg (pe_df DP hr2 passL (by rfl) (pa_cons (pv 0) (pa_cons (pe_lst (pa_cons (pe_tup (pa_cons pe_int (pa_cons pe_int (pa_cons pe_int pa_nil)))) (pa_cons (pe_tup (pa_cons pe_int (pa_cons pe_int (pa_cons pe_int pa_nil)))) (pa_cons (pe_tup (pa_cons pe_int (pa_cons pe_int (pa_cons pe_int pa_nil)))) (pa_cons (pe_tup (pa_cons pe_int (pa_cons pe_int (pa_cons pe_int pa_nil)))) pa_nil))))) pa_nil))) (pg_tup rfl (pgs_cons (pg_name (i := 2) c_law_steps.nd rfl (.inl rfl)) (pgs_cons (pg_name (i := 3) c_law_steps.nd rfl (.inl rfl)) (pgs_cons (pg_name (i := 4) c_law_steps.nd rfl (.inl rfl)) pgs_nil)))))
    (pss_cons (ps_par rfl c_law_steps.nd (i := 5) (j := 6) rfl rfl (by decide) rfl rfl (pa_cons (pe_callTy (tupS (K := K) rfl) (by rfl) T.tuple boot_tuple (pa_cons (pe_lc (own := [("_law_k", 10)]) (g := gName 10) (tt := tYes) rfl c_law_steps.nd (pi_rg1 (by rfl) T.range (pa_cons (pv 2) pa_nil)) (blkOk_by (N := n_law_steps) (sc := defScope s_law_steps) (by decide +kernel)) (fun _ _ _ _ _ => pg_name (i := 10) c_law_steps.nd rfl (Or.inl rfl)) (fun _ _ _ _ _ => pts_nil) (fun _ _ _ _ _ => (pe_cmpR op_eq (pv 10) pe_int (nomark _)))) pa_nil)) (pa_cons (pe_callTy (tupS (K := K) rfl) (by rfl) T.tuple boot_tuple (pa_cons (pe_lc (own := [("_law_k", 10)]) (g := gName 10) (tt := tYes) rfl c_law_steps.nd (pi_rg1 (by rfl) T.range (pa_cons (pv 3) pa_nil)) (blkOk_by (N := n_law_steps) (sc := defScope s_law_steps) (by decide +kernel)) (fun _ _ _ _ _ => pg_name (i := 10) c_law_steps.nd rfl (Or.inl rfl)) (fun _ _ _ _ _ => pts_nil) (fun _ _ _ _ _ => (pe_cmpR op_eq (pv 10) pe_int (nomark _)))) pa_nil)) pa_nil)) (by rfl))
    (pss_cons (ps_set (i := 7) c_law_steps.nd rfl (.inr rfl) (pe_ix (ixL (K := K) rfl) (pe_lst (pa_cons (pe_ck CK hr5 passL (by rfl) (pa_cons pe_int (pa_cons (pe_tup (pa_cons pe_bl pa_nil)) (pa_cons (pe_tup pa_nil) (pa_cons (pv 5) pa_nil))))) (pa_cons (pe_ck CK hr5 passL (by rfl) (pa_cons (pe_un un_neg pe_int) (pa_cons (pv 5) (pa_cons (pe_tup pa_nil) (pa_cons (pe_tup (pa_cons pe_bl pa_nil)) pa_nil))))) pa_nil))) (pv 1) (fun _ _ => rfl)))
    (pss_cons (ps_set (i := 8) c_law_steps.nd rfl (.inr rfl) (pe_ix (ixL (K := K) rfl) (pe_lst (pa_cons (pe_ck CK hr5 passL (by rfl) (pa_cons pe_int (pa_cons (pe_tup (pa_cons pe_bl pa_nil)) (pa_cons (pe_tup pa_nil) (pa_cons (pv 6) pa_nil))))) (pa_cons (pe_ck CK hr5 passL (by rfl) (pa_cons pe_int (pa_cons (pv 6) (pa_cons (pe_tup pa_nil) (pa_cons (pe_tup (pa_cons pe_bl pa_nil)) pa_nil))))) pa_nil))) (pv 1) (fun _ _ => rfl)))
    (pss_cons (ps_set (i := 9) c_law_steps.nd rfl (.inl rfl) (pe_lst (pa_cons (pe_lamN TB rfl hmT huT rfl (lam_free (ps := []) (sc := defScope s_law_steps) (lamP_by (by decide +kernel)))) (pa_cons (pe_lamN TB rfl hmT huT rfl (lam_free (ps := []) (sc := defScope s_law_steps) (lamP_by (by decide +kernel)))) pa_nil))))
    (pss_cons (ps_if (pt_not (pt_val (pe_lendG DWS hr10 hg (fun _ => rfl) (by rfl) (pa_cons (pv 9) (pa_cons (pe_df DU hr1 passL (by rfl) (pa_cons (pv 4) pa_nil)) pa_nil))))) (pss_one (ps_ret pe_bl)) pss_nil)
    (pss_cons (ps_set (i := 9) c_law_steps.nd rfl (.inl rfl) (pe_lst (pa_cons (pe_lamN TB rfl hmT huT rfl (lam_free (ps := []) (sc := defScope s_law_steps) (lamP_by (by decide +kernel)))) (pa_cons (pe_lamN TB rfl hmT huT rfl (lam_free (ps := []) (sc := defScope s_law_steps) (lamP_by (by decide +kernel)))) pa_nil))))
    (pss_cons (ps_if (PW.pt (pw_and (pt_cmpR op_gt (pe_op op_mul (pv 2) (pv 3)) pe_int (nomark _)) (pw_and1 (pt_not (pt_val (pe_lendG DWS hr10 hg (fun _ => rfl) (by rfl) (pa_cons (pv 9) (pa_cons (pe_df DU hr1 passL (by rfl) (pa_cons (pe_op op_mul (pv 2) (pv 3)) pa_nil)) pa_nil)))))))) (pss_one (ps_ret pe_bl)) pss_nil)
    (pss_cons (ps_set (i := 10) c_law_steps.nd rfl (.inr rfl) (pe_df DP hr2 passL (by rfl) (pa_cons (pv 0) (pa_cons (pe_lst (pa_cons (pe_op op_fdiv pe_int (pv 2)) (pa_cons (pe_un un_neg (pe_op op_fdiv pe_int (pv 2))) (pa_cons (pe_op op_add (pe_op op_fdiv pe_int (pv 2)) pe_int) (pa_cons (pe_op op_sub (pe_un un_neg (pe_op op_fdiv pe_int (pv 2))) pe_int) pa_nil))))) pa_nil))))
    (pss_one (ps_ret (pe_cmpR (op_eqD hr.units) (pe_lendG DW9 hr10 hg (fun _ => rfl) (by rfl) (pa_cons (pe_lamN TB rfl hmT huT rfl (lam_free (ps := []) (sc := defScope s_law_steps) (lamP_by (by decide +kernel)))) pa_nil)) (pe_df DU hr1 passL (by rfl) (pa_cons (pe_op op_mul (pe_callB call_abs (by rfl) T.abs boot_abs (pa_cons (pv 10) pa_nil)) (pv 2)) pa_nil)) (nomark _))))))))))))), ?_⟩
  -- the pair
  refine ⟨_, rfl, (by show 3 ≤ sizeLine; decide), fun ta na => ⟨(by show 3 ≤ sizeLine; decide), fun tb nb => ⟨(by show 3 ≤ sizeLine; decide), fun tc nc => ⟨(by show 3 ≤ sizeLine; decide), fun td nd => ⟨(by show 4 ≤ sizeLine; decide), fun l1 nl => ?_⟩⟩⟩⟩⟩
  have ka := same_upd (o := .tup [.int 177, .int 113, .int 20001]) na
  have kb := same_upd (o := .tup [.int 32, .int 625, .int 20000]) nb
  have kc := same_upd (o := .tup [.int 150, .int 140, .int 2100]) nc
  have kd := same_upd (o := .tup [.int 400, .int 200, .int 400]) nd
  have kl := same_upd (o := .lst [.ref ta, .ref tb, .ref tc, .ref td]) nl
  have kdl := kd.trans kl
  have kcl := kc.trans kdl
  have kbl := kb.trans kcl
  have kal := ka.trans kbl
  refine ⟨d, l1, _, k, rfl, sqL_new, (by simp), (by show 4 ≤ 1000000; decide), by omega, hp.same kal, fun j x H1 hj d1 p1 => ?_⟩
  obtain ⟨n, m, l, t, hP, rfl, ht⟩ : ∃ n m l t, stepP n m l ∧ x = .ref t ∧ SqT K H1 t [.int (n : Nat), .int (m : Nat), .int (l : Nat)] := by
    match j, hj with
    | 0, e => exact ⟨177, 113, 20001, ta, .inl ⟨rfl, rfl, rfl⟩, (Option.some.inj e).symm, sqT_kp (sqT_same sqT_new kbl) d1.kp⟩
    | 1, e => exact ⟨32, 625, 20000, tb, .inr (.inl ⟨rfl, rfl, rfl⟩), (Option.some.inj e).symm, sqT_kp (sqT_same sqT_new kcl) d1.kp⟩
    | 2, e => exact ⟨150, 140, 2100, tc, .inr (.inr (.inl ⟨rfl, rfl, rfl⟩)), (Option.some.inj e).symm, sqT_kp (sqT_same sqT_new kdl) d1.kp⟩
    | 3, e => exact ⟨400, 200, 400, td, .inr (.inr (.inr ⟨rfl, rfl, rfl⟩)), (Option.some.inj e).symm, sqT_kp (sqT_same sqT_new kl) d1.kp⟩
    | j + 4, e => simp at e
  have d01 := (Same.nd kal).trans d1
  clear kal kbl kcl kdl ka kb kc kd kl
  obtain ⟨hn1, hn7, hm1, hm7, hl1⟩ := step_sz hP
  obtain ⟨hcm, hcm'⟩ := step_cm hP
  refine ⟨t, _, rfl, ht, rfl, _, _, rfl, _, _, rfl, _, _, rfl, rfl, ?_⟩
  -- the two rows
  have row : ∀ (σ : L2.St) (n : Nat) (H1 : Hp) (Qd : Addr → Hp → Prop), σ.length = 11 → n ≤ 700 → (∀ D H', Same H1 H' → H' D = some (.lst (bls (hot n 0))) → Qd D H') →
      ∀ D, H1 D = none → ∃ W : Nat → Nat → Hp → Prop, (∃ m, W 0 m (upd H1 D (.lst []))) ∧ ∀ k m H, W k m H →
        ((Itr 0 n).stop k H ∧ Qd D H) ∨ ((Itr 0 n).go k H ∧ ∃ Nx : Hp → Prop, (∀ H', Nx H' → ∃ m', m' < m ∧ W (k + 1) m' H') ∧ ∀ x H', (Itr 0 n).yld k H x H' → gName 10 x (wipe σ [10]) H' fun σ2 H2 => wipe σ2 [10] = wipe σ [10] ∧ tYes σ2 H2 fun b H3 =>
          if b = true then (tOp rEq (tVar 10) (L2.tC (.int 0))) σ2 H3 fun y H4 => ∃ acc, H4 D = some (.lst acc) ∧ acc.length < sizeLine ∧ Nx (upd H4 D (.lst (acc ++ [y]))) else Nx H3) := by
    intro σ n H1 Qd hl8 hn qd
    refine lcR (i := 10) (fun j => .bl (decide (j = 0))) (row_line (by omega)) (fun j H' Qy hj s2 qy => ?_) fun D H' n1 s2 e2 => ?_
    · refine ⟨_, by rw [List.getElem?_set_self (by omega)], rfl, ?_⟩
      rw [show decide (V.int (0 + (j : Int)) = V.int 0) = decide (j = 0) from decide_eq_decide.mpr ⟨fun z => by have := V.int.inj z; omega, fun z => by rw [z]; rfl⟩]
      exact qy H' (Same.refl H')
    · rw [map_hot] at e2
      exact qd D H' s2 e2
  refine ⟨_, rfl, _, rfl, ?_⟩
  rw [Int.toNat_natCast]
  refine row _ n H1 _ rfl (by omega) fun D1 H2 s2 e2 => ?_
  refine ⟨D1, _, rfl, .inl (sqL_at e2), fun pa H3 s3 ha3 => ⟨_, rfl, _, rfl, ?_⟩⟩
  rw [Int.toNat_natCast]
  refine row _ m H3 _ rfl (by omega) fun D2 H4 s4 e4 => ?_
  refine ⟨D2, _, rfl, .inl (sqL_at e4), fun pb H5 s5 hb5 => ⟨_, _, rfl, ?_⟩⟩
  have s15 := s2.trans (s3.trans (s4.trans s5))
  have ha5 := sqT_same ha3 (s4.trans s5)
  have d05 := d01.trans (Same.nd s15)
  have p5 := p1.same s15
  clear e2 e4 s2 s3 s4 ha3
  -- some
  refine ⟨(by show 1 ≤ sizeLine; decide), fun s1 sn1 => ⟨(by show 0 ≤ sizeLine; decide), fun s2 sn2 => ⟨_, rfl, ?_⟩⟩⟩
  have sk1 := same_upd (o := .tup [.bl false]) sn1
  have sk2 := same_upd (o := .tup []) sn2
  have sk12 := sk1.trans sk2
  refine rounds_madeA (rb := [false]) (rm := []) (ra := hot n 0) (sqT_same row1 sk2) (.inr sqT_new) (sqT_same ha5 sk12) (by simp) (hot_ne (by omega)) small_row (by show 0 ≤ sizeLine; decide) (by rw [hot_length]; exact Nat.le_trans (show n ≤ 700 by omega) (by decide)) fun FA pA sH6 hFA s6 hRA => ?_
  have sk6 := sk12.trans s6
  refine ⟨4, rfl, _, rfl, (by show 0 ≤ sizeLine; decide), fun s3 sn3 => ⟨(by show 1 ≤ sizeLine; decide), fun s4 sn4 => ?_⟩⟩
  have sk3 := same_upd (o := .tup []) sn3
  have sk4 := same_upd (o := .tup [.bl false]) sn4
  have sk34 := sk3.trans sk4
  refine rounds_madeA (rb := hot n 0) (rm := []) (ra := [false]) (sqT_same ha5 (sk6.trans sk34)) (.inr (sqT_same sqT_new sk4)) row1 (hot_ne (by omega)) (by simp) (by rw [hot_length]; exact Nat.le_trans (show n ≤ 700 by omega) (by decide)) (by show 0 ≤ sizeLine; decide) small_row fun FB pB sH7 hFB s7 hRB => ?_
  have sk7 := sk34.trans s7
  refine ⟨(by show 2 ≤ sizeLine; decide), fun sl snl => ?_⟩
  have skl := same_upd (o := .lst [.ref pA, .ref pB]) snl
  refine ⟨_, rfl, sl, _, _, V.ref (if way = 0 then pA else pB), rfl, rfl, sqL_new, ?_, ?_⟩
  · rcases (show way = 0 ∨ way = 1 by omega) with rfl | rfl <;> rfl
  have sk := sk6.trans (sk7.trans skl)
  have hb6 := sqT_same hb5 sk
  -- more
  refine ⟨(by show 1 ≤ sizeLine; decide), fun m1 mn1 => ⟨(by show 0 ≤ sizeLine; decide), fun m2 mn2 => ⟨_, rfl, ?_⟩⟩⟩
  have mk1 := same_upd (o := .tup [.bl false]) mn1
  have mk2 := same_upd (o := .tup []) mn2
  have mk12 := mk1.trans mk2
  refine rounds_madeA (rb := [false]) (rm := []) (ra := hot m 0) (sqT_same row1 mk2) (.inr sqT_new) (sqT_same hb6 mk12) (by simp) (hot_ne (by omega)) small_row (by show 0 ≤ sizeLine; decide) (by rw [hot_length]; exact Nat.le_trans (show m ≤ 700 by omega) (by decide)) fun FC pC mH6 hFC m6 hRC => ?_
  have mk6 := mk12.trans m6
  refine ⟨_, rfl, (by show 0 ≤ sizeLine; decide), fun m3 mn3 => ⟨(by show 1 ≤ sizeLine; decide), fun m4 mn4 => ?_⟩⟩
  have mk3 := same_upd (o := .tup []) mn3
  have mk4 := same_upd (o := .tup [.bl false]) mn4
  have mk34 := mk3.trans mk4
  refine rounds_madeA (rb := hot m 0) (rm := []) (ra := [false]) (sqT_same hb6 (mk6.trans mk34)) (.inr (sqT_same sqT_new mk4)) row1 (hot_ne (by omega)) (by simp) (by rw [hot_length]; exact Nat.le_trans (show m ≤ 700 by omega) (by decide)) (by show 0 ≤ sizeLine; decide) small_row fun FD pD mH7 hFD m7 hRD => ?_
  have mk7 := mk34.trans m7
  refine ⟨(by show 2 ≤ sizeLine; decide), fun ml mnl => ?_⟩
  have mkl := same_upd (o := .lst [.ref pC, .ref pD]) mnl
  refine ⟨_, rfl, ml, _, _, V.ref (if way = 0 then pC else pD), rfl, rfl, sqL_new, ?_, ?_⟩
  · rcases (show way = 0 ∨ way = 1 by omega) with rfl | rfl <;> rfl
  have mk := mk6.trans (mk7.trans mkl)
  -- what is known of the two
  have szn : (hot n 0).length ≤ 20000 := by rw [hot_length]; omega
  have szm : (hot m 0).length ≤ 20000 := by rw [hot_length]; omega
  have one_ : ([false] : Row).length ≤ 20000 := by show 1 ≤ 20000; decide
  obtain ⟨up, s1, t1, FS, GM, hFS, hGM, R1, R2, okF, okG, b1, b2⟩ : ∃ (up : Bool) (s1 t1 : Int) (FS GM : Form), Hot up s1 n FS ∧ Hot up t1 m GM ∧ Rou K C _ (if way = 0 then pA else pB) FS ∧ Rou K C _ (if way = 0 then pC else pD) GM ∧ Fok FS ∧ Fok GM ∧ s1 - t1 ≤ 100 ∧ t1 - s1 ≤ 100 := by
    by_cases hw : way = 0
    · rw [if_pos hw, if_pos hw]
      exact ⟨true, 3, 9, FA, FC, hot_up hn1 hFA, hot_up hm1 hFC, hRA.same (sk7.trans (skl.trans mk)), hRC.same (mk7.trans mkl), fok_of (by simp) (hot_ne (by omega)) one_ szn (by show 0 ≤ 100000; decide) hFA, fok_of (by simp) (hot_ne (by omega)) one_ szm (by show 0 ≤ 100000; decide) hFC, by omega, by omega⟩
    · rw [if_neg hw, if_neg hw]
      exact ⟨false, -4, 2, FB, FD, hot_down hn1 hFB, hot_down hm1 hFD, hRB.same (skl.trans mk), hRD.same mkl, fok_of (hot_ne (by omega)) (by simp) szn one_ (by show 0 ≤ 100000; decide) hFB, fok_of (hot_ne (by omega)) (by simp) szm one_ (by show 0 ≤ 100000; decide) hFD, by omega, by omega⟩
  generalize (if way = 0 then pA else pB) = pS at R1 ⊢
  generalize (if way = 0 then pC else pD) = pM at R2 ⊢
  have RS : RF K C _ pS FS := ⟨R1, okF⟩
  have RM : RF K C _ pM GM := ⟨R2, okG⟩
  have d8 := d05.trans (Same.nd (sk.trans mk))
  have p8 := p5.same (sk.trans mk)
  have t8 := tabs_nd hTT d8
  generalize upd mH7 ml (.lst [.ref pC, .ref pD]) = H8 at RS RM d8 p8 t8 ⊢
  clear R1 R2 hRA hRB hRC hRD sk mk skl mkl snl mnl hb6 hb5 ha5 p5 d05 hFA hFB hFC hFD
  have cdl : dueD (cm n m : Nat) = dueD l := by rw [hcm]
  have cdl' : dueD (cm m n : Nat) = dueD l := by rw [hcm']
  have cd1 : combD FS GM = dueD l := by rw [hFS.comb hn1 hm1 hGM (by omega) (by omega) (by omega), cdl]
  have cd2 : combD GM FS = dueD l := by rw [hGM.comb hm1 hn1 hFS (by omega) (by omega) (by omega), cdl']
  -- the first two calls
  refine ⟨t8, fun f1 c1 Ha H9 xa na ea t9 ca => ⟨t9, fun f2 c2 Hb H10 xb nb eb t10 cb => ?_⟩⟩
  obtain ⟨x9, l1'⟩ := lam_facts xa na ea ca
  obtain ⟨x10, l2'⟩ := lam_facts xb nb eb cb
  clear xa na ea ca xb nb eb cb
  refine ⟨(by show 2 ≤ sizeLine; decide), fun l11 n11 => ?_⟩
  have s11 := same_upd (o := .lst [.ref f1, .ref f2]) n11
  refine ⟨_, rfl, _, rfl, _, rfl, fun dv H12 s12 dv12 => fun L Lt hno => ?_⟩
  have s1112 := s11.trans s12
  have n812 := x9.trans (x10.trans (Same.nt s1112))
  have RS' := RS.kp n812.kp
  have RM' := RM.kp n812.kp
  refine ⟨l11, dv, [f1, f2], dueD l, rfl, sqL_same (sqL_same sqL_new s12) (lend_same hno), (by show 2 ≤ 1000; decide), fun g hg' => ?_, dp_same dv12 (lend_same hno), shaped_due _, fun H13 s13 => ?_⟩
  · simp only [List.mem_cons, List.not_mem_nil, or_false] at hg'
    rcases hg' with rfl | rfl
    · exact gives_lam (k := 7) (N' := ["_law_some", "_law_more"]) (τ := [some (.ref pS), some (.ref pM)]) (l1'.nt (x10.trans (Same.nt s1112))) hno Lt (lamP_by (sc := defScope s_law_steps) (by decide +kernel)) (by decide) (tk_cons 7 rfl rfl (tk_cons 8 rfl rfl tk_nil)) rfl (fun _ _ _ _ _ => rfl) (fun c' A' o' s' H' E' hr' => pe_op (bin_own rfl R.sf ma Fa hr' ba (thru rfl rfl rfl rfl)) (pv 0) (pv 1))
        (fun H' Q' E' s' qn qe => ⟨_, rfl, _, rfl, sign_run (RS'.same s') (RM'.same s') (fun e => qn (cd1 ▸ e)) (fun C fs r => qe C fs (cd1 ▸ r))⟩)
    · exact gives_lam (k := 7) (N' := ["_law_some", "_law_more"]) (τ := [some (.ref pS), some (.ref pM)]) (l2'.nt (Same.nt s1112)) hno Lt (lamP_by (sc := defScope s_law_steps) (by decide +kernel)) (by decide) (tk_cons 7 rfl rfl (tk_cons 8 rfl rfl tk_nil)) rfl (fun _ _ _ _ _ => rfl) (fun c' A' o' s' H' E' hr' => pe_md MP R.cl hr' (thru rfl rfl rfl rfl) (pv 1) (pa_cons (pv 0) pa_nil))
        (fun H' Q' E' s' qn qe => by
          obtain ⟨dx, b, m, a, e⟩ := rf_ins (RM'.same s')
          exact ⟨_, rfl, pM, dx, _, rfl, e, rfl, _, rfl, ask_run (RM'.same s') (RS'.same s') (fun e => qn (cd2 ▸ e)) (fun C fs r => qe C fs (cd2 ▸ r))⟩)
  have s13' := s1112.trans (same_unl hno s13)
  refine ⟨_, rfl, ?_⟩
  refine iteF ?_
  have n814 : NT H8 _ := x9.trans (x10.trans (Same.nt s13'))
  have t14 : LamX.Tabs TT _ := t10.ext s13'
  dsimp only
  generalize unl L H13 = H14 at n814 t14 ⊢
  clear s13' s13 RS' RM' s1112 s12 dv12 s11 n11 l1' l2' x9 x10 hno Lt L
  -- the second two
  refine ⟨t14, fun f3 c3 Ha H15 xa na ea t15 ca => ⟨t15, fun f4 c4 Hb H16 xb nb eb t16 cb => ?_⟩⟩
  obtain ⟨x15, l3⟩ := lam_facts xa na ea ca
  obtain ⟨x16, l4⟩ := lam_facts xb nb eb cb
  clear xa na ea ca xb nb eb cb
  refine ⟨(by show 2 ≤ sizeLine; decide), fun l17 n17 => ?_⟩
  have s17 := same_upd (o := .lst [.ref f3, .ref f4]) n17
  refine ⟨_, rfl, _, rfl, _, _, rfl, rfl, .inl ⟨by omega, by omega⟩, _, _, rfl, rfl, _, rfl, ?_⟩
  refine and_by (A := fun Q => tNot _ _ _ Q) (R := fun H' => NT H14 H' ∧ LamX.Tabs TT H') (fun _ => ⟨x15.trans (x16.trans (Same.nt s17)), t16.ext s17⟩) (fun hi Q' hq => ?_) (fun H20 hR20 => ?_)
  · have hbig : 20000 < n * m := by
      have z : 20000 < (n : Int) * m := of_decide_eq_true hi
      exact_mod_cast z
    refine ⟨_, rfl, _, rfl, _, rfl, _, _, rfl, rfl, .inl ⟨by omega, by omega⟩, _, rfl, fun dv H18 s18 dv18 => fun L Lt hno => ?_⟩
    have hdu : dueD ((n : Int) * m) = tmD "period" := by
      unfold dueD
      rw [if_pos (of_decide_eq_true hi)]
      rfl
    have s1718 := s17.trans s18
    have n818 := n814.trans (x15.trans (x16.trans (Same.nt s1718)))
    have RS' := RS.kp n818.kp
    have RM' := RM.kp n818.kp
    have lens : 20000 < perS FS GM := by
      unfold perS
      rw [hFS.lb, hFS.la, hGM.lb, hGM.la]
      cases up
      · show 20000 < max (1 * 1) (n * m)
        omega
      · show 20000 < max (n * m) (1 * 1)
        omega
    refine ⟨l17, dv, [f3, f4], _, rfl, sqL_same (sqL_same sqL_new s18) (lend_same hno), (by show 2 ≤ 1000; decide), fun g hg' => ?_, dp_same dv18 (lend_same hno), shaped_due _, fun H19 s19 => ?_⟩
    · simp only [List.mem_cons, List.not_mem_nil, or_false] at hg'
      rcases hg' with rfl | rfl
      · exact gives_lam (k := 7) (N' := ["_law_some", "_law_more"]) (τ := [some (.ref pS), some (.ref pM)]) (l3.nt (x16.trans (Same.nt s1718))) hno Lt (lamP_by (sc := defScope s_law_steps) (by decide +kernel)) (by decide) (tk_cons 7 rfl rfl (tk_cons 8 rfl rfl tk_nil)) rfl (fun _ _ _ _ _ => rfl) (fun c' A' o' s' H' E' hr' => pe_df DSu (hr'.mono (by decide)) (thru rfl rfl rfl rfl) (by rfl) (pa_cons (pv 0) (pa_cons (pv 1) pa_nil)))
          (fun H' Q' E' s' qn qe => ⟨_, rfl, _, rfl, pS, FS, pM, GM, rfl, RS'.same s', RM'.same s', .inl ⟨lens, qe TM _ (hdu ▸ .tm)⟩⟩)
      · exact gives_lam (k := 7) (N' := ["_law_some", "_law_more"]) (τ := [some (.ref pS), some (.ref pM)]) (l4.nt (Same.nt s1718)) hno Lt (lamP_by (sc := defScope s_law_steps) (by decide +kernel)) (by decide) (tk_cons 7 rfl rfl (tk_cons 8 rfl rfl tk_nil)) rfl (fun _ _ _ _ _ => rfl) (fun c' A' o' s' H' E' hr' => pe_df DSh hr' (thru rfl rfl rfl rfl) (by rfl) (pa_cons (pe_un (un_own (.inl ⟨rfl, rfl⟩) mn Fn (hr'.mono (by decide)) bn passL) (pv 0)) (pa_cons (pv 1) pa_nil)))
          (fun H' Q' E' s' qn qe => by
            obtain ⟨dx, b, m', a, e⟩ := rf_ins (RS'.same s')
            refine ⟨_, rfl, pS, dx, _, rfl, e, pS, FS, rfl, RS'.same s', fun D pD H'' hD s'' RD => ⟨_, rfl, pD, D, pM, GM, rfl, RD, (RM'.same s').same s'', ?_, (qe TM _ (hdu ▸ .tm)).same s''⟩⟩
            obtain ⟨g1, g2, _⟩ := form_rows (by simpa using okF.na) (by simpa using okF.nb) hD
            rw [g1, g2, lstep_rev okF.na, lstep_rev okF.nb, okF.pa, okF.pb, hFS.lb, hFS.la, hGM.lb, hGM.la]
            cases up
            · show 20000 < max (1 * 1) (n * m)
              omega
            · show 20000 < max (n * m) (1 * 1)
              omega)
    have s19' := s1718.trans (same_unl hno s19)
    exact ⟨true, rfl, hq _ ⟨x15.trans (x16.trans (Same.nt s19')), t16.ext s19'⟩⟩
  obtain ⟨n1420, t20⟩ := hR20
  clear x15 x16 l3 l4 s17 n17
  have n820 := n814.trans n1420
  have p20 := p8.nt n820
  have RS20 := RS.kp n820.kp
  have k20 : KP H H20 := d8.kp.trans n820.kp
  refine iteF ?_
  obtain ⟨q0, hq0⟩ : ∃ q0 : Int, q0 = 20000 / (n : Int) := ⟨_, rfl⟩
  have hq1 : q0 * n ≤ 20000 := by rw [hq0]; exact Int.ediv_mul_le _ (by omega)
  have hq2 : 20000 < (q0 + 1) * n := by rw [hq0]; exact Int.lt_ediv_add_one_mul_self _ (by omega)
  have hq3 : 1 ≤ q0 := by
    rw [hq0]
    exact (Int.le_ediv_iff_mul_le (by omega)).mpr (by omega)
  have hq4 : q0 ≤ 20000 := by
    rw [hq0]
    exact Int.ediv_le_self _ (by decide)
  have cd : CDiv 20000 (n : Int) := ⟨by omega, by omega⟩
  refine ⟨_, rfl, _, rfl, _, _, rfl, rfl, cd, _, rfl, _, _, rfl, rfl, cd, _, rfl, _, rfl, _, _, rfl, rfl, cd, _, _, rfl, rfl, _, rfl, _, _, rfl, rfl, cd, _, rfl, _, _, rfl, rfl, (by show 4 ≤ sizeLine; decide), fun lk nk => ?_⟩
  have kk := same_upd (o := .lst [.int (20000 / (n : Int)), .int (-(20000 / (n : Int))), .int (20000 / (n : Int) + 1), .int (-(20000 / (n : Int)) - 1)]) nk
  refine ⟨d, lk, _, k + 1, rfl, sqL_new, (by simp), (by show 4 ≤ 1000000; decide), by omega, p20.same kk, fun j x H21 hj d21 p21 => ?_⟩
  obtain ⟨kv, rfl, hkv⟩ : ∃ kv : Int, x = .int kv ∧ (kv = q0 ∨ kv = -q0 ∨ kv = q0 + 1 ∨ kv = -q0 - 1) := by
    match j, hj with
    | 0, e => exact ⟨_, (Option.some.inj e).symm, .inl hq0.symm⟩
    | 1, e => exact ⟨_, (Option.some.inj e).symm, .inr (.inl (by rw [hq0]))⟩
    | 2, e => exact ⟨_, (Option.some.inj e).symm, .inr (.inr (.inl (by rw [hq0])))⟩
    | 3, e => exact ⟨_, (Option.some.inj e).symm, .inr (.inr (.inr (by rw [hq0])))⟩
    | j + 4, e => simp at e
  have d2021 := (Same.nd kk).trans d21
  have t21 := tabs_nd t20 d2021
  have RS21 := RS20.kp d2021.kp
  have htop : topR FS = n := by
    unfold topR
    rw [hFS.lb, hFS.la]
    cases up
    · show max 1 n = n
      omega
    · show max n 1 = n
      omega
  have hab : (if kv < 0 then -kv else kv) = ((kv.natAbs : Nat) : Int) := abs_nat kv
  have hprod : (if kv < 0 then -kv else kv) * (n : Int) = ((kv.natAbs * n : Nat) : Int) := by rw [hab, Int.natCast_mul]
  have hka : kv.natAbs ≤ 20001 := by omega
  have hk0 : kv ≠ 0 := by omega
  refine ⟨t21, fun f5 c5 Ha H22 xa na ea t22 ca => ?_⟩
  obtain ⟨x22, l5⟩ := lam_facts xa na ea ca
  clear xa na ea ca
  have RS22 := RS21.kp x22.kp
  refine fun L Lt hno => ⟨f5, dueD ((if kv < 0 then -kv else kv) * (n : Int)), rfl, ?_, fun v23 H23 s23 hv23 => ?_⟩
  · exact gives_lam (k := 8) (N' := ["_law_some", "_law_k"]) (τ := [some (.ref pS), some (.int kv)]) l5 hno Lt (lamP_by (sc := defScope s_law_steps) (by decide +kernel)) (by decide) (tk_cons 7 rfl rfl (tk_cons 10 rfl rfl tk_nil)) rfl (fun _ _ _ _ _ => rfl) (fun c' A' o' s' H' E' hr' => pe_md MSp R.cl hr' (thru rfl rfl rfl rfl) (pv 0) (pa_cons (pv 1) (pa_cons pe_int pa_nil)))
      (fun H' Q' E' s' qn qe => by
        obtain ⟨dx, b, m', a, e⟩ := rf_ins (RS22.same s')
        refine ⟨_, rfl, pS, dx, _, rfl, e, rfl, _, rfl, pS, FS, kv, 5, rfl, RS22.same s', hk0, by omega, fun z => (by cases z), fun z => ?_, fun z => ⟨fun z2 => ?_, fun _ D q' H'' s'' _ => qn ?_ _ _ s''⟩⟩
        · rw [htop] at z
          refine qe TM _ ?_
          unfold dueD
          rw [hprod, if_pos (by omega)]
          exact .tm
        · rw [hFS.mid] at z2
          simp at z2
        · rw [htop] at z
          unfold dueD
          rw [hprod, if_neg (by omega)])
  have s23' := same_unl hno s23
  have hv23 := Dp.unl (lies_lend.same s23) _ _ hv23
  refine ⟨_, rfl, kv, rfl, _, rfl, _, _, rfl, rfl, .inr ⟨by omega, by omega⟩, _, rfl, fun v24 H24 s24 hv24 => ⟨_, _, dp_same hv23 s24, hv24, shaped_due _, shaped_due _, ?_⟩⟩
  rw [eqv_shaped (shaped_due _)]
  have s2324 := s23'.trans s24
  exact q _ (k20.trans (d2021.kp.trans (x22.kp.trans (Same.kp s2324)))) (((p21.nt x22).same s2324).le (by omega)) (t22.ext s2324)
end
end Rk
set_option maxHeartbeats 4000000
/-! The law's defs, last part: _law_middles, law. -/
namespace Rk
open PySem PySem.Spec PyProof.Rows L2

theorem sf_mid {s : Int} {n : Nat} (hn : 0 < n) {F : Form} (h : SF s false (List.replicate n true) false F) : F = (s, [false], List.replicate n true, [false]) := by
  refine sf_uniq h (sf_full s false false (fun z => ?_) ?_ ?_)
  · have := congrArg List.length z
    rw [List.length_replicate] at this
    simp at this
    omega
  · rw [List.getD_eq_getElem?_getD, List.getElem?_replicate, if_pos hn]
    decide
  · rw [List.length_replicate, List.getD_eq_getElem?_getD, List.getElem?_replicate, if_pos (by omega)]
    decide
section
variable {P : Program} {w : World} {K : PySem.W.Frag} {mg : Str → Option Value} {base : Heap}
theorem ok_middles {C TM BN BR c : Addr} {TT : List (Addr × Str)} (h : HasT K mg "_law_middles" s_law_middles c) (TI : TabIn base mg TT "_law_middles" (defScope s_law_middles) c) (T : Tx K mg) (R : RC K mg C) (DP : Df P w K mg base 2 "_law_pick" ["_law_pen_here", "_law_some"] (spPick K)) (DN : Df P w K mg base 4 "_law_number" ["_law_pen_here"] (spNumber K))
    (DW9 : DfG P w K mg base 10 "_law_why" ["_law_call"] (spWhy P w K mg base BN BR TM 9)) (DWS : DfG P w K mg base 10 "_law_whys" ["_law_calls", "_law_due_here"] (spWhys P w K mg base BN BR TM 8)) (CK : Ck P w K mg base "Rounds" C 4 ["self", "start", "below", "middle", "above"] (spRi K C))
    (M0 : Df P w K mg base 6 "none" [] (spMk0 K C (SF 0 false [] false))) (M6 : Df P w K mg base 6 "between" ["low", "high"] (spBetween K C BN TM))
    (MA : Md P w K mg base C 7 "__and__" ["self", "other"] (spSign K C TM)) (MP : Md P w K mg base C 7 "apart" ["self", "other"] (spAsk K C TM)) (MSp : Md P w K mg base C 8 "spread" ["self", "k", "r"] (spSpread K C TM false))
    (DSu : Df P w K mg base 3 "sums" ["one", "other"] (spSums K C TM)) :
    DfG P w K mg base 12 "_law_middles" ["_law_pen_here"] (spPenT K TT 500000 30) := by
  obtain ⟨Pt, TB, hmT, huT⟩ := TI.ex
  obtain ⟨fa, fda, ma, Fa, ba⟩ := MA.ex
  refine h.dfG c_law_middles (fun _ _ _ _ _ _ us hl => match us, hl with | [_], _ => rfl) (fun vs H Q E ⟨_, _, e, _⟩ => by rw [e]; rfl) fun f A outer s H vs Q E hr hg hs => ?_
  obtain ⟨d, k, rfl, hk, hp, hTT, q⟩ := hs
  have hr2 := hr.mono (show 2 ≤ 11 by decide)
  have hr4 := hr.mono (show 4 ≤ 11 by decide)
  have hr5 := hr.mono (show 5 ≤ 11 by decide)
  have hr10 := hr.mono (show 10 ≤ 11 by decide)
  refine ⟨_, (pss_cons (ps_set (i := 1) c_law_middles.nd rfl (.inl rfl) (pe_df DP hr2 passL (by rfl) (pa_cons (pv 0) (pa_cons (pe_lst (pa_cons pe_int (pa_cons pe_int (pa_cons pe_int pa_nil)))) pa_nil))))
    (pss_cons (ps_set (i := 2) c_law_middles.nd rfl (.inr rfl) (pe_ck CK hr5 passL (by rfl) (pa_cons (pe_df DN hr4 passL (by rfl) (pa_cons (pv 0) pa_nil)) (pa_cons (pe_tup (pa_cons pe_bl pa_nil)) (pa_cons (pe_op op_mulQ (pe_tup (pa_cons pe_bl pa_nil)) (pv 1)) (pa_cons (pe_tup (pa_cons pe_bl pa_nil)) pa_nil))))))
    (pss_cons (ps_set (i := 3) c_law_middles.nd rfl (.inl rfl) (pe_ifExp (pt_cmpR op_gt (pv 1) pe_int (nomark _)) (pe_tup (pa_cons pe_str (pa_cons pe_str (pa_cons pe_int pa_nil)))) pe_non))
    (pss_cons (ps_set (i := 4) c_law_middles.nd rfl (.inr rfl) (pe_df DP hr2 passL (by rfl) (pa_cons (pv 0) (pa_cons (pe_lst (pa_cons pe_int (pa_cons (pe_un un_neg pe_int) pa_nil))) pa_nil))))
    (pss_cons (ps_if (pt_cmpR (op_neD hr.units) (pe_lendG DW9 hr10 hg (fun _ => rfl) (by rfl) (pa_cons (pe_lamN TB rfl hmT huT rfl (lam_free (ps := []) (sc := defScope s_law_middles) (lamP_by (by decide +kernel)))) pa_nil)) (pv 3) (nomark _)) (pss_one (ps_ret pe_bl)) pss_nil)
    (pss_cons (ps_if (pt_cmpR op_isN (pv 3) pe_non (nomark _)) (pss_one (ps_ret pe_bl)) pss_nil)
    (pss_cons (ps_set (i := 5) c_law_middles.nd rfl (.inr rfl) (pe_ck CK hr5 passL (by rfl) (pa_cons pe_int (pa_cons (pe_tup (pa_cons pe_bl pa_nil)) (pa_cons (pe_op op_mulQ (pe_tup (pa_cons pe_bl pa_nil)) pe_int) (pa_cons (pe_tup (pa_cons pe_bl pa_nil)) pa_nil))))))
    (pss_cons (ps_set (i := 6) c_law_middles.nd rfl (.inl rfl) (pe_lst (pa_cons (pe_lamN TB rfl hmT huT rfl (lam_free (ps := []) (sc := defScope s_law_middles) (lamP_by (by decide +kernel)))) (pa_cons (pe_lamN TB rfl hmT huT rfl (lam_free (ps := []) (sc := defScope s_law_middles) (lamP_by (by decide +kernel)))) (pa_cons (pe_lamN TB rfl hmT huT rfl (lam_free (ps := []) (sc := defScope s_law_middles) (lamP_by (by decide +kernel)))) (pa_cons (pe_lamN TB rfl hmT huT rfl (lam_free (ps := []) (sc := defScope s_law_middles) (lamP_by (by decide +kernel)))) pa_nil))))))
    (pss_one (ps_ret (pe_lendG DWS hr10 hg (fun _ => rfl) (by rfl) (pa_cons (pv 6) (pa_cons (pv 3) pa_nil))))))))))))), ?_⟩
  refine ⟨_, rfl, (by show 3 ≤ sizeLine; decide), fun l1 n1 => ?_⟩
  have k1 := same_upd (o := .lst [.int 10000, .int 10001, .int 10001]) n1
  refine ⟨d, l1, _, k, rfl, sqL_new, (by simp), (by show 3 ≤ 1000000; decide), by omega, hp.same k1, fun j x H2 hj d2 p2 => ?_⟩
  obtain ⟨len, hlen, rfl⟩ : ∃ m : Nat, (m = 10000 ∨ m = 10001) ∧ x = .int m := by
    match j, hj with
    | 0, e => exact ⟨10000, .inl rfl, (Option.some.inj e).symm⟩
    | 1, e => exact ⟨10001, .inr rfl, (Option.some.inj e).symm⟩
    | 2, e => exact ⟨10001, .inr rfl, (Option.some.inj e).symm⟩
    | j + 3, e => simp at e
  refine ⟨_, rfl, d, k + 1, rfl, by omega, p2, fun n H3 d3 p3 => ⟨(by show 1 ≤ sizeLine; decide), fun a1 m1 => ⟨(by show 1 ≤ sizeLine; decide), fun a2 m2 => ⟨_, rfl, a2, _, [.bl true], rfl, rfl, sqT_new, by simp, (by show 1 ≤ 1000; decide), by omega, (by show (1 : Int) * _ ≤ _; omega), by omega, fun a3 X3 kx tx => ⟨(by show 1 ≤ sizeLine; decide), fun a4 m4 => ?_⟩⟩⟩⟩⟩
  rw [Int.toNat_natCast, show [V.bl true] = bls [true] from rfl, rep_flat] at tx
  have j1 := same_upd (o := .tup [.bl false]) m1
  have j2 := same_upd (o := .tup [.bl true]) m2
  have j4 := same_upd (o := .tup [.bl false]) m4
  have j14 := j1.trans (j2.trans (kx.trans j4))
  have hz : (List.replicate len true).length ≤ sizeLine := by
    rw [List.length_replicate]
    exact Nat.le_trans (show len ≤ 10001 by omega) (by decide)
  refine rounds_madeA (rb := [false]) (rm := List.replicate len true) (ra := [false]) (sqT_same row1 (j2.trans (kx.trans j4))) (.inr (sqT_same tx j4)) row1 (by simp) (by simp) small_row hz small_row fun F1 p1 H5 hF1 s5 hR1 => ?_
  have ok1 : Fok F1 := fok_sf (by rw [List.length_replicate]; omega) (sf_of hF1)
  obtain rfl := sf_mid (by omega) (sf_of hF1)
  have R1 : RF K C H5 p1 _ := ⟨hR1, ok1⟩
  have d05 := (Same.nd k1).trans (d2.trans (d3.trans (Same.nd (j14.trans s5))))
  have p5 := p3.same (j14.trans s5)
  have t5 := tabs_nd hTT d05
  clear hR1 hF1 tx j1 j2 j4 j14 kx
  -- what is due
  obtain ⟨du, hdu⟩ : ∃ du : PyData, du = if len = 10001 then tmD "middle" else .none := ⟨_, rfl⟩
  have shu : SeqAt.shaped du = true := by
    rw [hdu]
    split
    · exact shaped_tm (by decide +kernel)
    · rfl
  refine ⟨_, rfl, _, _, rfl, rfl, _, rfl, ?_⟩
  refine ifE_by (A := fun Q => tTup _ _ _ Q) (B := fun Q => L2.tC .non _ _ Q) (R := fun v H' => Same H5 H' ∧ Dp K H' v du ∧ (len = 10000 → v = .non) ∧ (len = 10001 → v ≠ .non)) (fun hi Q' hq => ?_) (fun hi Q' hq => ?_) (fun dv H6 hR6 => ?_)
  · have e0 : len = 10001 := by
      have z : (len : Int) > 10000 := of_decide_eq_true hi
      omega
    refine ⟨(by show 3 ≤ sizeLine; decide), fun p np => hq _ _ ⟨same_upd np, ?_, fun z => by omega, fun _ z => by cases z⟩⟩
    rw [hdu, if_pos e0]
    exact dp_tm
  · have e0 : ¬ len = 10001 := fun z => by
      have y : ¬ (len : Int) > 10000 := of_decide_eq_false hi
      omega
    exact hq _ _ ⟨Same.refl _, by rw [hdu, if_neg e0]; exact .non, fun _ => rfl, fun z => absurd z e0⟩
  obtain ⟨s6, dv6, dvn, dvr⟩ := hR6
  -- k
  refine ⟨_, rfl, 2, rfl, (by show 2 ≤ sizeLine; decide), fun l7 n7 => ?_⟩
  have k7 := same_upd (o := .lst [.int 2, .int (-2)]) n7
  refine ⟨d, l7, _, k + 19, rfl, sqL_new, (by simp), (by show 2 ≤ 1000000; decide), by omega, (p5.same s6).same k7, fun j x H8 hj d8 p8 => ?_⟩
  obtain ⟨kv, hkv, rfl⟩ : ∃ kv : Int, (kv = 2 ∨ kv = -2) ∧ x = .int kv := by
    match j, hj with
    | 0, e => exact ⟨2, .inl rfl, (Option.some.inj e).symm⟩
    | 1, e => exact ⟨-2, .inr rfl, (Option.some.inj e).symm⟩
    | j + 2, e => simp at e
  have d58 := (Same.nd (s6.trans k7)).trans d8
  have t8 := tabs_nd t5 d58
  have R8 := R1.kp d58.kp
  have dv8 := dp_kp (dp_same dv6 k7) d8.kp
  have k08 : KP H H8 := d05.kp.trans d58.kp
  refine ⟨t8, fun f1 c1 Ha H9 xa na ea t9 ca => ?_⟩
  obtain ⟨x9, l1'⟩ := lam_facts xa na ea ca
  clear xa na ea ca
  have R9 := R8.kp x9.kp
  refine fun L Lt hno => ⟨f1, du, rfl, ?_, fun v10 H10 s10 hv10 => ?_⟩
  · exact gives_lam (k := 8) (N' := ["_law_one", "_law_k"]) (τ := [some (.ref p1), some (.int kv)]) l1' hno Lt (lamP_by (sc := defScope s_law_middles) (by decide +kernel)) (by decide) (tk_cons 2 rfl rfl (tk_cons 4 rfl rfl tk_nil)) rfl (fun _ _ _ _ _ => rfl) (fun c' A' o' s' H' E' hr' => pe_md MSp R.cl hr' (thru rfl rfl rfl rfl) (pv 0) (pa_cons (pv 1) (pa_cons pe_int pa_nil)))
      (fun H' Q' E' s' qn qe => by
        obtain ⟨dx, b, m', a, e⟩ := rf_ins (R9.same s')
        have htop : topR (n, [false], List.replicate len true, [false]) = 1 := rfl
        have hml : (List.replicate len true).length = len := List.length_replicate
        have hkn : kv.natAbs = 2 := by omega
        refine ⟨_, rfl, p1, dx, _, rfl, e, rfl, _, rfl, p1, _, kv, 1, rfl, R9.same s', by omega, by omega, fun z => (by cases z), fun z => ?_, fun z => ⟨fun z2 => ?_, fun z2 D q' H'' s'' _ => qn ?_ _ _ s''⟩⟩
        · rw [htop] at z
          omega
        · have z2 : 20000 < kv.natAbs * (List.replicate len true).length := z2
          rw [hml, hkn] at z2
          refine qe TM _ ?_
          rw [hdu, if_pos (by omega)]
          exact .tm
        · have z2 : kv.natAbs * (List.replicate len true).length ≤ 20000 := z2
          rw [hml, hkn] at z2
          rw [hdu, if_neg (by omega)])
  have s10' := same_unl hno s10
  have hv10 := Dp.unl (lies_lend.same s10) _ _ hv10
  have n811 := x9.trans (Same.nt s10')
  refine ⟨_, rfl, _, _, hv10, dp_kp dv8 n811.kp, shu, shu, _, rfl, ?_⟩
  rw [eqv_shaped shu]
  refine iteF ?_
  have t11 : LamX.Tabs TT _ := t9.ext s10'
  have dv11 := dp_kp dv8 n811.kp
  dsimp only
  generalize unl L H10 = H11 at n811 t11 dv11 ⊢
  clear hv10 s10' s10 x9 l1' R9 hno Lt L
  have p11 := p8.nt n811
  have R11 := R8.kp n811.kp
  have k11 : KP H H11 := k08.trans n811.kp
  refine ⟨_, rfl, rfl, _, rfl, ?_⟩
  rcases hlen with rfl | rfl
  · rw [decide_eq_true (dvn rfl)]
    exact iteT (q _ k11 (p11.le (by omega)) t11)
  rw [decide_eq_false (dvr rfl)]
  refine iteF ?_
  rw [if_pos rfl] at hdu
  subst hdu
  -- wide
  refine ⟨(by show 1 ≤ sizeLine; decide), fun b1 m1 => ⟨(by show 1 ≤ sizeLine; decide), fun b2 m2 => ⟨b2, _, [.bl true], rfl, rfl, sqT_new, by simp, (by show 1 ≤ 1000; decide), by decide, (by show (1 : Int) * _ ≤ _; decide), by decide, fun b3 X3 kx tx => ⟨(by show 1 ≤ sizeLine; decide), fun b4 m4 => ?_⟩⟩⟩⟩
  rw [show ((20001 : Int)).toNat = 20001 from rfl, show [V.bl true] = bls [true] from rfl, rep_flat] at tx
  have j1 := same_upd (o := .tup [.bl false]) m1
  have j2 := same_upd (o := .tup [.bl true]) m2
  have j4 := same_upd (o := .tup [.bl false]) m4
  have j14 := j1.trans (j2.trans (kx.trans j4))
  have hz2 : (List.replicate 20001 true).length ≤ sizeLine := by
    rw [List.length_replicate]
    decide
  refine rounds_madeA (rb := [false]) (rm := List.replicate 20001 true) (ra := [false]) (sqT_same row1 (j2.trans (kx.trans j4))) (.inr (sqT_same tx j4)) row1 (by simp) (by simp) small_row hz2 small_row fun F2 p2' H12 hF2 s12 hR2 => ?_
  have ok2 : Fok F2 := fok_sf (by rw [List.length_replicate]; decide) (sf_of hF2)
  obtain rfl := sf_mid (by decide) (sf_of hF2)
  have R2 : RF K C H12 p2' _ := ⟨hR2, ok2⟩
  have s1112 := j14.trans s12
  have t12 := t11.ext s1112
  have R12 := R11.same s1112
  have dv12 := dp_same dv11 s1112
  clear hR2 hF2 tx j1 j2 j4 j14 kx
  refine ⟨t12, fun f1 c1 Ha H13 xa na ea t13 ca => ⟨t13, fun f2 c2 Hb H14 xb nb eb t14 cb => ⟨t14, fun f3 c3 Hc H15 xc nc ec t15 cc => ⟨t15, fun f4 c4 Hd H16 xd nd ed t16 cd => ?_⟩⟩⟩⟩
  obtain ⟨x13, l1'⟩ := lam_facts xa na ea ca
  obtain ⟨x14, l2'⟩ := lam_facts xb nb eb cb
  obtain ⟨x15, l3'⟩ := lam_facts xc nc ec cc
  obtain ⟨x16, l4'⟩ := lam_facts xd nd ed cd
  clear xa na ea ca xb nb eb cb xc nc ec cc xd nd ed cd
  refine ⟨(by show 4 ≤ sizeLine; decide), fun l17 n17 => ?_⟩
  have s17 := same_upd (o := .lst [.ref f1, .ref f2, .ref f3, .ref f4]) n17
  have n1617 := x16.trans (Same.nt s17)
  have n1517 := x15.trans n1617
  have n1417 := x14.trans n1517
  have n1217 := x13.trans n1417
  have R1' := R12.kp n1217.kp
  have R2' := R2.kp n1217.kp
  have dv17 := dp_kp dv12 n1217.kp
  have none_ : ∀ {F : Form}, SF 0 false [] false F → F = (0, [false], [], [false]) := fun h => sf_uniq h (sf_const 0 false fun j hj => absurd hj (Nat.not_lt_zero _))
  have okN : Fok (0, [false], [], [false]) := fok_sf (by show 0 ≤ 100000; decide) (sf_const 0 false (m := []) fun j hj => absurd hj (Nat.not_lt_zero _))
  have hw1 : (List.replicate 20001 true).length = 20001 := List.length_replicate
  have hjw : endF (4, [false], List.replicate 20001 true, [false]) = 20005 := by
    unfold endF
    show (4 : Int) + ((List.replicate 20001 true).length : Int) = 20005
    rw [hw1]
    decide
  have thrN : thrF (0, [false], [], [false]) = true := thr_word [false]
  have thrW : thrF (4, [false], List.replicate 20001 true, [false]) = false := by
    unfold thrF
    rfl
  have pe1 : ∀ x y : Row, ∀ s t : Int, perF (s, [false], x, [false]) (t, [false], y, [false]) = 1 := fun x y s t => by
    show max (cm 1 1) (cm 1 1) = 1
    rw [cm_one]
    rfl
  have cd1 : combD (0, [false], [], [false]) (4, [false], List.replicate 20001 true, [false]) = tmD "middle" := by
    have hj : jb (0, [false], [], [false]) (4, [false], List.replicate 20001 true, [false]) = (4, 20005) := by
      unfold jb
      rw [if_pos thrN, hjw]
    unfold combD
    rw [pe1, hj, if_neg (by decide), if_pos (by decide)]
  have cd2 : combD (4, [false], List.replicate 20001 true, [false]) (0, [false], [], [false]) = tmD "middle" := by
    have hj : jb (4, [false], List.replicate 20001 true, [false]) (0, [false], [], [false]) = (4, 20005) := by
      unfold jb
      rw [if_neg (by rw [thrW]; decide), if_pos thrN, hjw]
    unfold combD
    rw [pe1, hj, if_neg (by decide), if_pos (by decide)]
  have ps1 : ∀ x y : Row, ∀ s t : Int, perS (s, [false], x, [false]) (t, [false], y, [false]) ≤ 20000 := fun x y s t => by
    show max (1 * 1) (1 * 1) ≤ 20000
    decide
  refine ⟨_, rfl, _, rfl, fun L Lt hno => ⟨l17, dv, [f1, f2, f3, f4], tmD "middle", rfl, sqL_same sqL_new (lend_same hno), (by show 4 ≤ 1000; decide), fun g hg' => ?_, dp_same dv17 (lend_same hno), shu, fun H18 s18 => ?_⟩⟩
  · simp only [List.mem_cons, List.not_mem_nil, or_false] at hg'
    rcases hg' with rfl | rfl | rfl | rfl
    · exact gives_lam (k := 7) (N' := ["_law_one"]) (τ := [some (.ref p1)]) (l1'.nt n1417) hno Lt (lamP_by (sc := defScope s_law_middles) (by decide +kernel)) (by decide) (tk_cons 2 rfl rfl tk_nil) rfl (fun _ _ _ _ _ => rfl) (fun c' A' o' s' H' E' hr' => pe_df DSu (hr'.mono (by decide)) (thru rfl rfl rfl rfl) (by rfl) (pa_cons (pv 0) (pa_cons (pe_df M6 (hr'.mono (by decide)) passL (by rfl) (pa_cons pe_int (pa_cons pe_int pa_nil))) pa_nil)))
        (fun H' Q' E' s' qn qe => ⟨_, rfl, _, _, _, _, rfl, .int 5, .int 10004, fun z => (by cases z), fun _ z => (by cases z), fun lo hi e1 e2 => by
          obtain rfl := PyData.int.inj e1
          obtain rfl := PyData.int.inj e2
          refine ⟨fun z => absurd z (by decide), fun _ F p H'' hF s'' hR => ?_⟩
          have hF : SF 5 false (List.replicate 10000 true) false F := hF
          have okF : Fok F := fok_sf (by rw [List.length_replicate]; decide) hF
          obtain rfl := sf_mid (by decide) hF
          refine ⟨p1, _, p, _, rfl, (R1'.same s').same s'', ⟨hR, okF⟩, .inr ⟨ps1 _ _ _ _, ?_, (qe TM _ .tm).same s''⟩⟩
          show 20000 < (List.replicate 10001 true).length + (List.replicate 10000 true).length
          rw [List.length_replicate, List.length_replicate]
          decide⟩)
    · exact gives_lam (k := 7) (N' := ["_law_wide"]) (τ := [some (.ref p2')]) (l2'.nt n1517) hno Lt (lamP_by (sc := defScope s_law_middles) (by decide +kernel)) (by decide) (tk_cons 5 rfl rfl tk_nil) rfl (fun _ _ _ _ _ => rfl) (fun c' A' o' s' H' E' hr' => pe_df DSu (hr'.mono (by decide)) (thru rfl rfl rfl rfl) (by rfl) (pa_cons (pe_df0 M0 (hr'.mono (by decide)) passL (by rfl)) (pa_cons (pv 0) pa_nil)))
        (fun H' Q' E' s' qn qe => ⟨rfl, fun F p H'' hF s'' hR => by
          obtain rfl := none_ hF
          refine ⟨_, rfl, p, _, p2', _, rfl, ⟨hR, okN⟩, (R2'.same s').same s'', .inr ⟨ps1 _ _ _ _, ?_, (qe TM _ .tm).same s''⟩⟩
          show 20000 < 0 + (List.replicate 20001 true).length
          rw [List.length_replicate]
          decide⟩)
    · exact gives_lam (k := 7) (N' := ["_law_wide"]) (τ := [some (.ref p2')]) (l3'.nt n1617) hno Lt (lamP_by (sc := defScope s_law_middles) (by decide +kernel)) (by decide) (tk_cons 5 rfl rfl tk_nil) rfl (fun _ _ _ _ _ => rfl) (fun c' A' o' s' H' E' hr' => pe_op (bin_own rfl R.sf ma Fa hr' ba (thru rfl rfl rfl rfl)) (pe_df0 M0 (hr'.mono (by decide)) passL (by rfl)) (pv 0))
        (fun H' Q' E' s' qn qe => ⟨rfl, fun F p H'' hF s'' hR => by
          obtain rfl := none_ hF
          exact ⟨_, rfl, sign_run (BN := BN) (BR := BR) ⟨hR, okN⟩ ((R2'.same s').same s'') (fun e => by rw [cd1] at e; cases e) (fun C fs r => Rz.same (qe C fs (by
            rw [cd1] at r
            cases r
            exact .tm)) s'')⟩⟩)
    · exact gives_lam (k := 7) (N' := ["_law_wide"]) (τ := [some (.ref p2')]) (l4'.nt (Same.nt s17)) hno Lt (lamP_by (sc := defScope s_law_middles) (by decide +kernel)) (by decide) (tk_cons 5 rfl rfl tk_nil) rfl (fun _ _ _ _ _ => rfl) (fun c' A' o' s' H' E' hr' => pe_md MP R.cl hr' (thru rfl rfl rfl rfl) (pv 0) (pa_cons (pe_df0 M0 (hr'.mono (by decide)) passL (by rfl)) pa_nil))
        (fun H' Q' E' s' qn qe => by
          obtain ⟨dx, b, m', a, e⟩ := rf_ins (R2'.same s')
          refine ⟨_, rfl, p2', dx, _, rfl, e, rfl, rfl, fun F p H'' hF s'' hR => ?_⟩
          obtain rfl := none_ hF
          exact ask_run (BN := BN) (BR := BR) ((R2'.same s').same s'') ⟨hR, okN⟩ (fun e => by rw [cd2] at e; cases e) (fun C fs r => Rz.same (qe C fs (by
            rw [cd2] at r
            cases r
            exact .tm)) s''))
  have s18' := s17.trans (same_unl hno s18)
  have nE := x13.trans (x14.trans (x15.trans (x16.trans (Same.nt s18'))))
  exact q _ (k11.trans ((Same.kp s1112).trans nE.kp)) (((p11.same s1112).nt nE).le (by omega)) (t16.ext s18')
end
end Rk
set_option maxHeartbeats 4000000
/-! The law. -/
namespace Rk
open PySem PySem.Spec PyProof.Rows L2

def spLaw (K : PySem.W.Frag) (TT : List (Addr × Str)) : Sp := fun vs H Q _ => ∃ (a : Addr) (ns : List Int), vs = [.ref a] ∧ SqL K H a (ns.map V.int) ∧ ns.length ≤ 1000 ∧ LamX.Tabs TT H ∧ ∀ H', Q (.bl true) H'
section
variable {P : Program} {w : World} {K : PySem.W.Frag} {mg : Str → Option Value} {base : Heap}
theorem ok_law {TT : List (Addr × Str)} (h : Has K mg "law" s_law) (DPn : Df P w K mg base 1 "_law_pen" ["_law_script"] (spPen K)) (DD : Df P w K mg base 1 "_law_draw" ["_law_pen_here", "_law_many"] (spDraw K)) (DM : Df P w K mg base 8 "_law_makes" ["_law_pen_here"] (spMakes K TT)) (DR : DfG P w K mg base 12 "_law_refuses" ["_law_pen_here"] (spPenT K TT 500000 10))
    (DS : DfG P w K mg base 12 "_law_steps" ["_law_pen_here", "_law_way"] (spSteps K TT)) (DMi : DfG P w K mg base 12 "_law_middles" ["_law_pen_here"] (spPenT K TT 500000 30)) (DRa : DfG P w K mg base 12 "_law_ranges" ["_law_pen_here"] (spPenT K TT 500000 30)) : DfG P w K mg base 13 "law" ["_law_script"] (spLaw K TT) := by
  refine h.dfG c_law (fun _ _ _ _ _ _ us hl => match us, hl with | [_], _ => rfl) (fun vs H Q E ⟨_, _, e, _⟩ => by rw [e]; rfl) fun f cdv A outer s H vs Q E hr hg hs => ?_
  obtain ⟨a, ns, rfl, ha, hz, hTT, q⟩ := hs
  have hr1 := hr.mono (show 1 ≤ 12 by decide)
  have hr8 := hr.mono (show 8 ≤ 12 by decide)
  refine ⟨_, (pss_cons (ps_set (i := 1) c_law.nd rfl (.inl rfl) (pe_df DPn hr1 passL (by rfl) (pa_cons (pv 0) pa_nil)))
    (pss_cons (ps_if (PW.pt (pw_or (pt_not (pt_val (pe_df DM hr8 passL (by rfl) (pa_cons (pv 1) pa_nil)))) (pw_or (pt_not (pt_val (pe_df DM hr8 passL (by rfl) (pa_cons (pv 1) pa_nil)))) (pw_or1 (pt_not (pt_val (pe_dfG DR hr hg passL (by rfl) (pa_cons (pv 1) pa_nil)))))))) (pss_one (ps_ret pe_bl)) pss_nil)
    (pss_cons (ps_set (i := 2) c_law.nd rfl (.inl rfl) (pe_df DD hr1 passL (by rfl) (pa_cons (pv 1) (pa_cons pe_int pa_nil))))
    (pss_cons (ps_if (PW.pt (pw_and (pt_cmpR op_lt (pv 2) pe_int (nomark _)) (pw_and1 (pt_not (pt_val (pe_dfG DS hr hg passL (by rfl) (pa_cons (pv 1) (pa_cons (pv 2) pa_nil)))))))) (pss_one (ps_ret pe_bl)) pss_nil)
    (pss_cons (ps_if (PW.pt (pw_and (pt_cmpR op_eq (pv 2) pe_int (nomark _)) (pw_and1 (pt_not (pt_val (pe_dfG DMi hr hg passL (by rfl) (pa_cons (pv 1) pa_nil))))))) (pss_one (ps_ret pe_bl)) pss_nil)
    (pss_one (ps_ret (pe_or (pe_cmpR op_ne (pv 2) pe_int (nomark _)) (pe_one (pe_dfG DRa hr hg passL (by rfl) (pa_cons (pv 1) pa_nil))))))))))), ?_⟩
  refine ⟨_, rfl, a, ns, rfl, ha, hz, fun d H1 s1 p1 => ?_⟩
  have t1 := hTT.ext s1
  refine ⟨_, rfl, d, 0, rfl, by decide, p1, t1, fun H2 _ p2 t2 => ⟨_, rfl, ?_⟩⟩
  refine iteF ⟨_, rfl, d, _, rfl, by decide, p2, t2, fun H3 _ p3 t3 => ⟨_, rfl, ?_⟩⟩
  refine iteF ⟨_, rfl, d, _, rfl, by decide, p3, t3, fun H4 _ p4 t4 => ⟨_, rfl, ?_⟩⟩
  refine iteF ?_
  refine ⟨_, rfl, d, 6, _, rfl, by decide, by decide, by decide, p4, fun way H5 hw d5 p5 => ?_⟩
  have t5 := tabs_nd t4 d5
  refine ⟨_, rfl, _, _, rfl, rfl, _, rfl, ?_⟩
  refine and_by (A := fun Q => tNot _ _ _ Q) (R := fun H' => Pen K H' d 1000 ∧ LamX.Tabs TT H') (fun _ => ⟨p5.le (by decide), t5⟩) (fun hi Q' hq => ?_) (fun H6 hR6 => ?_)
  · exact ⟨_, rfl, _, rfl, d, _, way, rfl, by have z : (way : Int) < 2 := of_decide_eq_true hi; omega, by decide, p5, t5, fun H' _ p' t' => ⟨_, rfl, hq _ ⟨p'.le (by decide), t'⟩⟩⟩
  obtain ⟨p6, t6⟩ := hR6
  refine iteF ?_
  refine ⟨_, rfl, rfl, _, rfl, ?_⟩
  refine and_by (A := fun Q => tNot _ _ _ Q) (R := fun H' => Pen K H' d 2000 ∧ LamX.Tabs TT H') (fun _ => ⟨p6.le (by decide), t6⟩) (fun hi Q' hq => ?_) (fun H7 hR7 => ?_)
  · exact ⟨_, rfl, d, _, rfl, by decide, p6, t6, fun H' _ p' t' => ⟨_, rfl, hq _ ⟨p'.le (by decide), t'⟩⟩⟩
  obtain ⟨p7, t7⟩ := hR7
  refine iteF ?_
  refine ⟨_, rfl, rfl, ?_⟩
  by_cases hw3 : V.int (way : Int) = V.int 3
  · refine ⟨_, rfl, ?_⟩
    rw [decide_eq_true hw3]
    exact iteF ⟨_, rfl, d, _, rfl, by decide, p7, t7, fun H' _ _ _ => q H'⟩
  · refine ⟨_, rfl, ?_⟩
    rw [decide_eq_false hw3]
    exact iteT (q H7)
end
end Rk
set_option maxHeartbeats 0
/-! The head: what is read off the written heap. -/
namespace Rk
open PySem PySem.Spec PyProof.Rows L2

/-! ### own classes of errors -/
def oexB (K : PySem.W.Frag) (C : Addr) : Bool := (match K.lookup C with
  | some ⟨.type "type", _, .cls cd, sl⟩ => (match cd.mro, sl.toList with
    | .ref C' :: bm, [_, _, _, _, some (.builtin n), _] => decide (C' = C) && (decide (n = "ValueError.__new__") && (!cd.hasDel && (cd.hasDict && PySem.HandSPX.refsVE bm)))
    | _, _ => false)
  | _ => false) && (decide (PySem.W.findIn K (.ref C) "__setattr__" = some (some (.builtin "object.__setattr__"))) && (decide (PySem.W.subIn K (.ref C) (.type "BaseException") = some true) && (decide (PySem.W.typeIn K (.ref C) = some (.type "type")) && PySem.W.keepIn K (.ref C))))
theorem oexB_ok {K : PySem.W.Frag} {C : Addr} (h : oexB K C = true) : OexC K C := by
  obtain ⟨h1, h⟩ := Bool.and_eq_true_iff.mp h
  obtain ⟨h2, h⟩ := Bool.and_eq_true_iff.mp h
  obtain ⟨h3, h⟩ := Bool.and_eq_true_iff.mp h
  obtain ⟨h4, h5⟩ := Bool.and_eq_true_iff.mp h
  refine ⟨?_, of_decide_eq_true h2, of_decide_eq_true h3, of_decide_eq_true h4, h5⟩
  split at h1
  · rename_i dd cd sl ho
    split at h1
    · rename_i C' bm k0 k1 k2 k3 n k5 hm hs
      simp only [Bool.and_eq_true, decide_eq_true_eq, Bool.not_eq_true'] at h1
      obtain ⟨rfl, rfl, hdel, hdict, hv⟩ := h1
      obtain ⟨nm, bs, mro, ns, qn, hd, sn, sub, ab, col, del⟩ := cd
      dsimp only at hm hdel hdict
      subst hm hdel hdict
      obtain ⟨l⟩ := sl
      dsimp only at hs
      subst hs
      exact ⟨nm, qn, ns, bs, bm, sn, sub, ab, col, dd, k0, k1, k2, k3, k5, ho, hv⟩
    · cases h1
  · cases h1
def noB (K : PySem.W.Frag) (C : Addr) (f : Str) : Bool := decide (PySem.W.findIn K (.ref C) f = some none)
def iniB (K : PySem.W.Frag) (C : Addr) : Bool := decide (PySem.W.findIn K (.ref C) "__init__" = some (some (.ref (He.ma K C "__init__")))) && decide (PySem.W.typeIn K (.ref (He.ma K C "__init__")) = some (.type "function"))
def exmB (K : PySem.W.Frag) (x y : Str) (b : Bool) : Bool := decide (PySem.W.exmOne K (.ref (He.ga K x)) (.ref (He.ga K y)) = some b)
def leB (K : PySem.W.Frag) (C : Addr) : Bool := PySem.W.readsIn K C (.type "type") && (decide (PySem.W.specialIn K (.ref C) "__getattribute__" = some (some (.builtin "type.__getattribute__"))) && (match PySem.W.findCls K (.ref C) (.type "type") "__init__" with
  | some (.val (.builtin n)) => decide (n = "ValueError.__init__")
  | _ => false))
theorem leB_ok {K : PySem.W.Frag} {C : Addr} (h : leB K C = true) : LeC K C := by
  obtain ⟨h1, h⟩ := Bool.and_eq_true_iff.mp h
  obtain ⟨h2, h3⟩ := Bool.and_eq_true_iff.mp h
  refine ⟨h1, of_decide_eq_true h2, ?_⟩
  split at h3
  · rename_i n e
    rw [e, of_decide_eq_true h3]
  · cases h3
def rcB (K : PySem.W.Frag) (C : Addr) : Bool := PySem.W.selfFirst K C && (decide (PySem.W.findIn K (.ref C) "__class__" = some (some (.builtin "object.__class__"))) && (decide (PySem.W.specialIn K (.builtin "object.__class__") "__get__" = some (some (.builtin "getset_descriptor.__get__"))) &&
  (decide (PySem.W.takesIn K (.builtin "object.__class__") = some true) && (decide (PySem.W.mroIn K C (.type "object") = some true) && decide (PySem.W.kitOne K (.ref C) (.ref C) = some true)))))

abbrev Rw : PySem.W.OpenRow := PySem.W.OpenLaw.row PySem.Challenge.rw_anylead_k20_whole_makers_and_limits_of_s
def dfF (x : Str) (st : Stmt) : He.DefD := ⟨(x, none), x, x, defArgs st, defBody st, defScope st, [], []⟩
def dfM (cl m q : Str) (st : Stmt) : He.DefD := ⟨(cl, some m), m, q, defArgs st, defBody st, defScope st, [], []⟩
def fnL : List He.DefD := [dfF "is_int" s_is_int, dfF "is_row" s_is_row, dfF "check_int" s_check_int, dfF "greatest_divisor" s_greatest_divisor, dfF "common_multiple" s_common_multiple, dfF "least_step" s_least_step, dfF "rolled" s_rolled, dfF "piece" s_piece, dfF "is_member" s_is_member, dfF "one_form" s_one_form, dfF "least_middle" s_least_middle, dfF "is_truths" s_is_truths, dfF "end_of" s_end_of, dfF "spread_row" s_spread_row, dfF "mixed_row" s_mixed_row, dfF "joint_bounds" s_joint_bounds, dfF "combined" s_combined, dfF "none" s_none, dfF "all_counts" s_all_counts, dfF "just" s_just, dfF "at_least" s_at_least, dfF "at_most" s_at_most, dfF "between" s_between, dfF "every" s_every, dfF "listed" s_listed, dfF "sums" s_sums, dfF "shifts" s_shifts, dfF "_law_pen" s_law_pen, dfF "_law_draw" s_law_draw, dfF "_law_pick" s_law_pick, dfF "_law_far" s_law_far, dfF "_law_is_int" s_law_is_int, dfF "_law_listed" s_law_listed, dfF "_law_has" s_law_has, dfF "_law_end" s_law_end, dfF "_law_described" s_law_described, dfF "_law_step_of" s_law_step_of, dfF "_law_form" s_law_form, dfF "_law_told" s_law_told, dfF "_law_is_one_form" s_law_is_one_form, dfF "_law_odd_items" s_law_odd_items, dfF "_law_why" s_law_why, dfF "_law_whys" s_law_whys, dfF "_law_odd" s_law_odd, dfF "_law_number" s_law_number, dfF "_law_makes" s_law_makes, dfF "_law_refuses" s_law_refuses, dfF "_law_ranges" s_law_ranges, dfF "_law_due" s_law_due, dfF "_law_steps" s_law_steps, dfF "_law_middles" s_law_middles, dfF "law" s_law, dfM "Rounds" "is_throughout" "Rounds.is_throughout" s_R_is_throughout, dfM "Rounds" "__contains__" "Rounds.__contains__" s_R_contains, dfM "Rounds" "__bool__" "Rounds.__bool__" s_R_bool, dfM "Rounds" "__and__" "Rounds.__and__" s_R_and, dfM "Rounds" "__or__" "Rounds.__or__" s_R_or, dfM "Rounds" "__sub__" "Rounds.__sub__" s_R_sub, dfM "Rounds" "__invert__" "Rounds.__invert__" s_R_invert, dfM "Rounds" "__neg__" "Rounds.__neg__" s_R_neg, dfM "Rounds" "within" "Rounds.within" s_R_within, dfM "Rounds" "apart" "Rounds.apart" s_R_apart, dfM "Rounds" "spread" "Rounds.spread" s_R_spread, dfM "Rounds" "__init__" "Rounds.__init__" s_R_init, dfM "BadNumber" "__init__" "BadNumber.__init__" s_BadNumber_init, dfM "BadRow" "__init__" "BadRow.__init__" s_BadRow_init, dfM "TooMany" "__init__" "TooMany.__init__" s_TooMany_init]
def faL : List He.Fa := [.glo "is_int", .glo "is_row", .glo "check_int", .glo "greatest_divisor", .glo "common_multiple", .glo "least_step", .glo "rolled", .glo "piece", .glo "is_member", .glo "one_form", .glo "least_middle", .glo "is_truths", .glo "end_of", .glo "spread_row", .glo "mixed_row", .glo "joint_bounds", .glo "combined", .glo "none", .glo "all_counts", .glo "just", .glo "at_least", .glo "at_most", .glo "between", .glo "every", .glo "listed", .glo "sums", .glo "shifts", .glo "_law_pen", .glo "_law_draw", .glo "_law_pick", .glo "_law_far", .glo "_law_is_int", .glo "_law_listed", .glo "_law_has", .glo "_law_end", .glo "_law_described", .glo "_law_step_of", .glo "_law_form", .glo "_law_told", .glo "_law_is_one_form", .glo "_law_odd_items", .glo "_law_why", .glo "_law_whys", .glo "_law_odd", .glo "_law_number", .glo "_law_makes", .glo "_law_refuses", .glo "_law_ranges", .glo "_law_due", .glo "_law_steps", .glo "_law_middles", .glo "law", .glo "Rounds", .glo "LeadError", .glo "BadNumber", .glo "BadRow", .glo "TooMany", .glo "BadText", .glo "BadPlace", .glo "IN_BOTH", .glo "IN_ONE_OR_BOTH", .glo "IN_FIRST_ALONE", .free "len", .free "abs", .free "max", .free "min", .free "all", .free "any", .free "enumerate", .free "range", .free "tuple", .free "list", .free "isinstance", .free "int", .free "bool", .free "repr", .int "LIMIT" 20000, .cls "Rounds", .mkr "Rounds", .noat "Rounds" "start", .noat "Rounds" "below", .noat "Rounds" "middle", .noat "Rounds" "above", .meth "Rounds" "is_throughout", .meth "Rounds" "__contains__", .meth "Rounds" "__bool__", .meth "Rounds" "__and__", .meth "Rounds" "__or__", .meth "Rounds" "__sub__", .meth "Rounds" "__invert__", .meth "Rounds" "__neg__", .meth "Rounds" "within", .meth "Rounds" "apart", .meth "Rounds" "spread"]
def tfL : List He.Defn := [("_law_form", none), ("_law_refuses", none), ("_law_ranges", none), ("_law_steps", none), ("_law_middles", none)]
def ndB : List Addr → Bool
  | [] => true
  | x :: xs => xs.all (fun y => !(Nat.beq y x)) && ndB xs
def exB (K : PySem.W.Frag) : Bool := ndB (tfL.map fun p => (He.cT K p).2) && (rcB K (He.ga K "Rounds") && (leB K (He.ga K "LeadError") &&
  (He.tupB K "IN_BOTH" [.bl false, .bl false, .bl false, .bl true] && (He.tupB K "IN_ONE_OR_BOTH" [.bl false, .bl true, .bl true, .bl true] && (He.tupB K "IN_FIRST_ALONE" [.bl false, .bl false, .bl true, .bl false] &&
  ((["BadNumber", "BadRow", "TooMany"] : List Str).all (fun x => oexB K (He.ga K x) && (xfB K (He.ga K x) && iniB K (He.ga K x))) &&
  (noB K (He.ga K "BadNumber") "what" && (noB K (He.ga K "BadNumber") "value" && (noB K (He.ga K "BadRow") "value" && (noB K (He.ga K "TooMany") "what" && (noB K (He.ga K "TooMany") "limit" &&
  (exmB K "BadNumber" "BadNumber" true && (exmB K "BadRow" "BadNumber" false && (exmB K "BadRow" "BadRow" true && (exmB K "TooMany" "BadNumber" false && (exmB K "TooMany" "BadRow" false && exmB K "TooMany" "TooMany" true))))))))))))))))
/-! ### the Hook, over the module's names and the statics -/
def outY (g : Addr → Option Obj) (as : List Addr) : List Addr := as.flatMap fun a => match g a with
  | some ⟨_, _, .dict es _, _⟩ => es.toList.flatMap fun e => He.refV e.val
  | some ⟨_, _, .func fd, _⟩ => He.refV fd.code
  | some ⟨_, _, .cls cd, _⟩ => [cd.ns]
  | _ => []
def stepY (g : Addr → Option Obj) : Nat → List Addr → List Addr
  | 0, _ => []
  | n + 1, as => as ++ stepY g n (outY g as)
def asY (g : Addr → Option Obj) : List Addr := cStatics :: stepY g 5 [mainGlobals]
def frY (g : Addr → Option Obj) : PySem.W.Frag := He.frT g (asY g)
def obsY (g : Addr → Option Obj) : He.AlX := (He.obsT faL fnL [] (frY g), exB (frY g) && He.tabsB g tfL (frY g))
theorem saysY_of {w : World} {h : Heap} (e : obsY h.get? = He.valX fnL [] w) : He.SaysX faL fnL [] tfL exB w h (frY h.get?) := by
  have e1 : He.obsT faL fnL [] (frY h.get?) = He.valT fnL [] w := congrArg Prod.fst e
  have e2 : (exB (frY h.get?) && He.tabsB h.get? tfL (frY h.get?)) = true := congrArg Prod.snd e
  rw [Bool.and_eq_true] at e2
  have each : ∀ p ∈ tfL, PySem.W.codeHdIn (frY h.get?) (He.cT (frY h.get?) p).1 (He.cT (frY h.get?) p).2 = true ∧ ∃ o, h.get? (He.cT (frY h.get?) p).2 = some o ∧ He.emptyTab o = true := fun p hp => by
    have z := List.all_eq_true.mp e2.2 p hp
    rw [Bool.and_eq_true] at z
    refine ⟨z.1, ?_⟩
    have z2 := z.2
    split at z2
    · rename_i o q
      exact ⟨o, q, z2⟩
    · cases z2
  refine ⟨e1, e2.1, fun p hp => (each p hp).1, fun p hp => ?_, fun p hp => ?_⟩
  · obtain ⟨_, o, q, z⟩ := each p hp
    exact He.frT_none q z
  · obtain ⟨_, o, q, z⟩ := each p hp
    rw [q, He.emptyTab_eq z]
def hkL : PySem.W.Hook where
  α := He.AlX
  obs := fun s => obsY s.heap.get?
  val := fun w => He.valX fnL [] w
  says := fun w h => ∃ K : PySem.W.Frag, K.In h ∧ He.SaysX faL fnL [] tfL exB w h K
  of := fun _ _ e => ⟨_, He.frT_in, saysY_of e⟩
  keeps := fun _ _ _ ⟨K, hK, c⟩ k => ⟨K, PySem.W.Frag.In.keeps hK k, ⟨c.t, c.more, c.hd, c.out, fun p hp => k _ _ (c.empty p hp)⟩⟩
def obL (s : PySem.W.SharedT) : He.AlX := obsY (HandSHeadRun.getT s)
theorem obL_eq (s : PySem.W.SharedT) : obL s = hkL.obs s.abs := by
  have e : HandSHeadRun.getT s = s.abs.heap.get? := funext fun a => HandSHeadRun.getT_eq s a
  unfold obL
  rw [e]
  rfl
def namesL : List PySem.Str := (["_wall", "LeadError", "BadNumber", "BadPlace", "BadRow", "BadText", "TooMany", "is_int", "is_row", "check_int", "greatest_divisor", "common_multiple", "least_step", "rolled", "piece", "is_member", "one_form", "least_middle", "rank_of", "place_of_rank", "runs_of", "items_of", "text_of", "LIMIT", "IN_BOTH", "IN_ONE_OR_BOTH", "IN_JUST_ONE", "IN_FIRST_ALONE", "is_truths"] : List PySem.Str) ++ (["Rounds", "end_of", "spread_row", "mixed_row", "joint_bounds", "combined", "none", "all_counts", "just", "at_least", "at_most", "between", "every", "listed", "reach", "sums", "mark_middle", "mark_upward", "mark_downward", "mark_crossing", "shifts"] : List PySem.Str) ++ (["_law_pen", "_law_draw", "_law_pick", "_law_far", "_law_is_int", "_law_listed", "_law_has", "_law_end", "_law_described", "_law_step_of", "_law_form", "_law_told", "_law_is_one_form", "_law_odd_items", "_law_why", "_law_whys", "_law_odd", "_law_number", "_law_makes", "_law_refuses", "_law_ranges", "_law_due", "_law_steps", "_law_middles"] : List PySem.Str)
end Rk
set_option maxHeartbeats 0
/-! The head's run. -/
namespace RkRun
open PySem PySem.Calls PySem.W HandSHeadRun
open Rk (Rw obL hkL namesL)
theorem runL (w : World) : RunEq Rw (PySem.W.view Rw.prog [80]) hkL obL 6000 namesL w := by
  intro os
  kernel_rfl
end RkRun
set_option maxHeartbeats 4000000
/-! The call of the law by its caller: no repr is under way there; the script and the empty tables stand apart. -/
namespace Rk
open PySem PySem.Spec PyProof.Rows L2

/-- of the abstract heap: the tables, and at most the script -/
structure Apart (K : PySem.W.Frag) (ts : List Addr) (a : Addr) (H : Hp) : Prop where
  tab : ∀ b ∈ ts, H b = some (.tbl #[])
  own : ∀ b u, H b = some u → (b ∈ ts ∧ u = .tbl #[]) ∨ (b = a ∧ K.lookup b = none ∧ ∃ o xs, u = .frz o (.lst xs))
/-- what stands on the heap as the law is called -/
structure Lain (K : PySem.W.Frag) (mg mb : Str → Option Value) (cs : List (Addr × Addr)) (a : Addr) (vs : List Value) (s : Shared) : Prop where
  kin : K.In s.heap
  glob : s.heap.Ns mainGlobals mg
  blt : s.heap.Ns builtinsNs mb
  boot : ∀ x : Str, x ≠ "__name__" → mb x = bootBuiltins x
  lim : s.heap.NoLimit
  gens : s.gens = #[]
  emp : ∀ p ∈ cs, s.heap.get? p.2 = some { cls := .none, data := .fields #[] }
  off : ∀ p ∈ cs, K.lookup p.2 = none
  cod : ∀ p ∈ cs, PySem.W.codeHdIn K p.1 p.2 = true
  bm : ∃ (bm : Addr) (ob : Obj), mg "__builtins__" = some (.ref bm) ∧ bm ≠ builtinsNs ∧ s.heap.get? bm = some ob ∧ ob.cls = .type "module" ∧ ob.dict = some builtinsNs ∧ ob.data = .plain
  scr : s.heap.get? a = some { cls := .type "list", data := .seq vs.toArray }
section
variable {P : Program} {w : World} {K : PySem.W.Frag} {mg mb : Str → Option Value} {cs : List (Addr × Addr)} {a : Addr} {vs : List Value} {ns : List Int} {s s' : Shared} {H H' : Hp}
theorem Lain.plain (L : Lain K mg mb cs a vs s) (B : Apart K (cs.map Prod.snd) a H) {b : Addr} {o : Obj} (e : s.heap.get? b = some o) (n1 : ∀ xs n, o.data = .seq xs n → False) (n2 : o.data = .fields #[] → False) : H b = none := by
  match q : H b with
  | none => rfl
  | some u =>
    rcases B.own b u q with ⟨hb, _⟩ | ⟨rfl, _⟩
    · obtain ⟨p, hp, rfl⟩ := List.mem_map.mp hb
      have z := e.symm.trans (L.emp p hp)
      exact (n2 (congrArg Obj.data (Option.some.inj z))).elim
    · have z := e.symm.trans L.scr
      exact (n1 _ _ (congrArg Obj.data (Option.some.inj z))).elim
theorem Lain.seen (L : Lain K mg mb cs a vs s) (B : Apart K (cs.map Prod.snd) a H) {b : Addr} {o : Obj} (e : K.lookup b = some o) : H b = none := by
  match q : H b with
  | none => rfl
  | some u =>
    rcases B.own b u q with ⟨hb, _⟩ | ⟨_, z, _⟩
    · obtain ⟨p, hp, rfl⟩ := List.mem_map.mp hb
      cases e.symm.trans (L.off p hp)
    · cases e.symm.trans z
theorem Lain.kinB (L : Lain K mg mb cs a vs s) (B : Apart K (cs.map Prod.snd) a H) : K.In (hidT s.heap H) := fun b o e => hidT_get (L.kin b o e) (L.seen B e)
theorem Lain.nsB (L : Lain K mg mb cs a vs s) (B : Apart K (cs.map Prod.snd) a H) {b : Addr} {m : Str → Option Value} (h : s.heap.Ns b m) : (hidT s.heap H).Ns b m := by
  obtain ⟨o, es, ep, e, hd, r⟩ := h
  exact ⟨o, es, ep, hidT_get e (L.plain B e (fun xs n z => by rw [hd] at z; cases z) (fun z => by rw [hd] at z; cases z)), hd, r⟩
theorem Lain.mod (L : Lain K mg mb cs a vs s) (B : Apart K (cs.map Prod.snd) a H) : L2.Mod K mg (hidT s.heap H) := by
  obtain ⟨mc, h1, h2⟩ := L.lim
  exact { kin := L.kinB B, glob := L.nsB B L.glob, blt := ⟨mb, L.nsB B L.blt, L.boot⟩, nolimit := ⟨mc, L.nsB B h1, h2⟩ }
theorem Lain.tabB (L : Lain K mg mb cs a vs s) (B : Apart K (cs.map Prod.snd) a H) {p : Addr × Addr} (hp : p ∈ cs) : LamX.TabB (hidT s.heap H) mg p.1 p.2 := by
  obtain ⟨bm, ob, b1, b2, b3, b4, b5, b6⟩ := L.bm
  obtain ⟨og, es, ep, eg, hg, _⟩ := L.glob
  have et := L.emp p hp
  refine { code := PySem.W.codeHd_of_K (L.kinB B) (L.cod p hp), bm := ⟨bm, ob, b1, b2, fun z => ?_, fun z => ?_, hidT_get b3 (L.plain B b3 (fun xs n z => by rw [b6] at z; cases z) (fun z => by rw [b6] at z; cases z)), b4, b5, b6⟩, gP := fun z => ?_ }
  · subst z
    cases b3.symm.trans eg
    rw [hg] at b6
    cases b6
  · subst z
    cases b3.symm.trans et
    cases b6
  · rw [z] at eg
    cases eg.symm.trans et
    cases hg
theorem Lain.env0 (L : Lain K mg mb cs a vs s) (B : Apart K (cs.map Prod.snd) a H) (hok : HOk P w H s.heap) : Env0 P w K mg (hidT s.heap H) callerA [] s H where
  frames := rfl
  mod := L.mod B
  bs := fun _ _ e => of_hidT e
  bsz := Nat.le_of_eq (hidT_size _ _)
  funs := trivial
  frf := fun b z => absurd (show b ∈ ([] : List Addr) from z) List.not_mem_nil
  hok := hok
  bare := .of_eq L.gens
theorem Lain.back (L : Lain K mg mb cs a vs s) (B : Apart K (cs.map Prod.snd) a H) (hok : HOk P w H s.heap) (hok' : HOk P w H' s'.heap) (un : Un (frs []) [] H H' s.heap s'.heap) : OldK s.heap s'.heap := by
  have both : ∀ b o, s.heap.get? b = some o → s'.heap.get? b = some o ∨ ∃ p ∈ cs, p.2 = b ∧ ∃ more : Array Value, s'.heap.get? b = some { cls := .none, data := .fields more } := fun b o e => by
    match q : H b with
    | none => exact .inl (un.keep b o e q (fun z => absurd (show b ∈ ([] : List Addr) from z) List.not_mem_nil) List.not_mem_nil)
    | some u =>
      rcases B.own b u q with ⟨hb, rfl⟩ | ⟨_, _, ob, xs, rfl⟩
      · obtain ⟨p, hp, rfl⟩ := List.mem_map.mp hb
        obtain ⟨more, z⟩ := un.tbls _ _ q
        exact .inr ⟨p, hp, rfl, _, hok' _ _ z⟩
      · have z1 := (hok _ _ q).1
        have z2 := (hok' _ _ (un.frzs _ _ _ q)).1
        cases e.symm.trans z1
        exact .inl z2
  refine ⟨fun b o e => ?_, fun b o e => ?_⟩
  · rcases both b o e with z | ⟨p, hp, rfl, more, z⟩
    · exact .inl z
    · have et := L.emp p hp
      cases e.symm.trans et
      have tb : s.heap.TableAt p.1 p.2 #[] := (PySem.W.codeHd_of_K L.kin (L.cod p hp)).tab et
      exact .inr (.inl ⟨tb.isCodeTable, rfl, #[], more, rfl, by rw [z, Array.empty_append]⟩)
  · rcases both b o e with z | ⟨p, _, _, more, z⟩
    · exact ⟨o, z⟩
    · exact ⟨_, z⟩
theorem Lain.hp (L : Lain K mg mb cs a vs s) (hi : IntsAre vs ns) (hl : ns.length ≤ sizeLine) : ∃ H : Hp, Apart K (cs.map Prod.snd) a H ∧ HOk P w H s.heap ∧ SqL K H a (ns.map V.int) := by
  have rv := vals_ints hi
  have lv : vs.length = ns.length := hi.length
  have na : ∀ p ∈ cs, p.2 ≠ a := fun p hp z => by
    have e1 := L.emp p hp
    rw [z] at e1
    cases e1.symm.trans L.scr
  cases hk : K.lookup a with
  | some o =>
    cases (L.kin a o hk).symm.trans L.scr
    refine ⟨fun b => if b ∈ cs.map Prod.snd then some (.tbl #[]) else none, ⟨fun b hb => if_pos hb, fun b u z => ?_⟩, fun b u z => ?_, .inr ⟨_, vs.toArray, _, hk, rfl, rfl, rfl, ?_, by simpa using rv⟩⟩
    · try dsimp only at z
      split at z
      · rename_i hb
        exact .inl ⟨hb, (Option.some.inj z).symm⟩
      · cases z
    · try dsimp only at z
      split at z
      · rename_i hb
        obtain ⟨p, hp, rfl⟩ := List.mem_map.mp hb
        cases z
        exact L.emp p hp
      · cases z
    · rw [List.size_toArray, lv]
      exact hl
  | none =>
    refine ⟨fun b => if b = a then some (.frz { cls := .type "list", data := .seq vs.toArray } (.lst (ns.map V.int))) else if b ∈ cs.map Prod.snd then some (.tbl #[]) else none, ⟨fun b hb => ?_, fun b u z => ?_⟩, fun b u z => ?_, .inl (.inr ⟨_, if_pos rfl⟩)⟩
    · obtain ⟨p, hp, rfl⟩ := List.mem_map.mp hb
      try dsimp only
      rw [if_neg (na p hp), if_pos hb]
    · try dsimp only at z
      split at z
      · rename_i hb
        exact .inr ⟨hb, by rw [hb]; exact hk, _, _, (Option.some.inj z).symm⟩
      · split at z
        · rename_i hb
          exact .inl ⟨hb, (Option.some.inj z).symm⟩
        · cases z
    · try dsimp only at z
      split at z
      · rename_i hb
        cases z
        subst hb
        exact ⟨L.scr, by rw [List.length_map]; exact hl, vs, _, rv, L.scr⟩
      · split at z
        · rename_i hb
          obtain ⟨p, hp, rfl⟩ := List.mem_map.mp hb
          cases z
          exact L.emp p hp
        · cases z
/-- the call, at the caller -/
theorem Lain.call (L : Lain K mg mb cs a vs s) (hi : IntsAre vs ns) (hl : ns.length ≤ sizeLine) {k : Nat} {fa : Addr} {x : Str} {ps : List Str} {sp : Sp} (hr : Room k callerA) (hps : ps.length = 1) (hmg : mg x = some (.ref fa))
    (F : ∀ base : Heap, K.In base → base.Ns mainGlobals mg → (∀ p ∈ cs, LamX.TabB base mg p.1 p.2) → DfG P w K mg base k x ps sp)
    (hsp : ∀ H : Hp, (∀ p ∈ cs, H p.2 = some (.tbl #[])) → SqL K H a (ns.map V.int) → sp [.ref a] H (fun v _ => v = .bl true) fun _ _ _ => False) :
    codeAny (model P w) callerA (.call (.ref fa) ⟨[.ref a], []⟩) (fun r s' => r = .ok (.ret (.bool true)) ∧ OldK s.heap s'.heap ∧ s'.os = s.os ∧ AllBare s'.gens) s := by
  obtain ⟨H, B, hok, hS⟩ := L.hp (P := P) (w := w) hi hl
  obtain ⟨f, fd, FO, hm, _, hbd⟩ := (F _ (L.kinB B) (L.nsB B L.glob) fun p hp => L.tabB B hp).ex
  obtain rfl : f = fa := by
    have z := hm.symm.trans hmg
    injection z with z
    injection z
  have hT : ∀ p ∈ cs, H p.2 = some (.tbl #[]) := fun p hp => B.tab _ (List.mem_map.mpr ⟨p, hp, rfl⟩)
  refine codeAny_mono (FO.run callerA [] s H ⟨[.ref a], []⟩ [.ref a] [.ref a] _ _ hr rfl (L.env0 B hok) (hbd s [.ref a] L.kin (by rw [hps]; rfl)) (.cons rfl .nil) (hsp H hT hS)) fun r s' h => ?_
  match r, h with
  | .error e, h =>
    obtain ⟨_, _, _, _, _, _, _, _, _, _, _, _, z⟩ := h
    exact z.elim
  | .ok .next, h => exact h.elim
  | .ok .brk, h => exact h.elim
  | .ok .cont, h => exact h.elim
  | .ok (.ret u), h =>
    obtain ⟨v, H', os, bare, un, hok', r', q⟩ := h
    obtain rfl : v = .bl true := q
    obtain rfl : u = Value.bool true := r'
    exact ⟨rfl, L.back B hok hok' un, os, bare⟩
end
end Rk
set_option maxHeartbeats 4000000
/-! All defs joined, from the head's facts. -/
namespace Rk
open PySem PySem.Spec PyProof.Rows L2

/-- the head's facts of K, the module's names mg -/
structure Hd (w : World) (K : PySem.W.Frag) (mg : Str → Option Value) (h : Heap) : Prop where
  X : K.In h
  G : h.Ns mainGlobals mg
  c : He.SaysX faL fnL [] tfL exB w h K
theorem nd_uniq : ∀ {l : List (Addr × Str)}, ndB (l.map Prod.fst) = true → ∀ p ∈ l, ∀ q ∈ l, p.1 = q.1 → p = q
  | [], _, _, hp, _, _, _ => nomatch hp
  | x :: l, h, p, hp, q, hq, e => by
    have h2 : (((l.map Prod.fst).all fun y => !(Nat.beq y x.1)) && ndB (l.map Prod.fst)) = true := h
    rw [Bool.and_eq_true] at h2
    have far : ∀ z ∈ l, z.1 = x.1 → False := fun z hz ez => by
      have h3 := List.all_eq_true.mp h2.1 z.1 (List.mem_map.mpr ⟨z, hz, rfl⟩)
      rw [ez] at h3
      have h4 : Nat.beq x.1 x.1 = true := Nat.beq_refl x.1
      rw [h4] at h3
      cases h3
    rcases List.mem_cons.mp hp with e1 | h1 <;> rcases List.mem_cons.mp hq with e2 | h3
    · rw [e1, e2]
    · exact (far q h3 (by rw [← e, e1])).elim
    · exact (far p h1 (by rw [e, e2])).elim
    · exact nd_uniq h2.2 p h1 q h3 e
/-- the five tables, the names of the lambdas that stand in them -/
def TTk (K : PySem.W.Frag) : List (Addr × Str) := [((He.cT K ("_law_form", none)).2, lamQ "_law_form" (defScope s_law_form)), ((He.cT K ("_law_refuses", none)).2, lamQ "_law_refuses" (defScope s_law_refuses)), ((He.cT K ("_law_ranges", none)).2, lamQ "_law_ranges" (defScope s_law_ranges)), ((He.cT K ("_law_steps", none)).2, lamQ "_law_steps" (defScope s_law_steps)), ((He.cT K ("_law_middles", none)).2, lamQ "_law_middles" (defScope s_law_middles))]
abbrev csk (K : PySem.W.Frag) : List (Addr × Addr) := tfL.map fun p => He.cT K p
section
variable {P : Program} {w : World} {K : PySem.W.Frag} {mg : Str → Option Value} {base h : Heap}
theorem Hd.glo (D : Hd w K mg h) (j : Nat) {x : Str} (hf : faL[j]? = some (.glo x)) : mg x = some (.ref (He.ga K x)) := He.glo_ok D.X D.G (D.c.t.d.fact j hf)
theorem Hd.free (D : Hd w K mg h) (j : Nat) {x : Str} (hf : faL[j]? = some (.free x)) : mg x = none := He.free_ok D.X D.G (D.c.t.d.fact j hf)
theorem Hd.has (D : Hd w K mg h) (i j : Nat) {x : Str} {st : Stmt} (hd : fnL[i]? = some (dfF x st)) (hf : faL[j]? = some (.glo x)) : Has K mg x st := by
  obtain ⟨fd, F⟩ := D.c.t.d.def_ i hd
  exact ⟨_, fd, F, D.glo j hf⟩
theorem Hd.hasT (D : Hd w K mg h) (i j : Nat) {x : Str} {st : Stmt} (hd : fnL[i]? = some (dfF x st)) (hf : faL[j]? = some (.glo x)) : HasT K mg x st (He.cT K (x, none)).1 := by
  obtain ⟨fd, F⟩ := D.c.t.d.def_ i hd
  obtain ⟨oc, od, dV, kV, doc, pm, an, cdv, ct, osl, e, lk, hc, _, _⟩ := F.ex
  obtain ⟨c, ec⟩ := He.codeIn_ref hc
  have e2 : fd.code = .ref c := by
    rw [e]
    exact ec
  have e3 : He.codeOf K (x, none) = c := He.codeOf_eq lk e2
  exact ⟨_, fd, F, D.glo j hf, by rw [e2, ← e3]; rfl⟩
theorem Hd.hasM (D : Hd w K mg h) (i j : Nat) {m q : Str} {st : Stmt} (hd : fnL[i]? = some (dfM "Rounds" m q st)) (hf : faL[j]? = some (.meth "Rounds" m)) : HasM K (He.ga K "Rounds") m q st := by
  obtain ⟨fd, F⟩ := D.c.t.d.def_ i hd
  exact ⟨_, fd, F, He.meth_ok (D.c.t.d.fact j hf)⟩
theorem Hd.hasI (D : Hd w K mg h) : HasI K mg "Rounds" (He.ga K "Rounds") "Rounds.__init__" s_R_init := by
  obtain ⟨fd, F⟩ := D.c.t.d.def_ 63 (d := dfM "Rounds" "__init__" "Rounds.__init__" s_R_init) rfl
  exact ⟨_, fd, F, He.mkr_ok (D.c.t.d.fact 78 (f := .mkr "Rounds") rfl), D.glo 52 rfl⟩
theorem Hd.tx (D : Hd w K mg h) : Tx K mg := ⟨D.free 62 rfl, D.free 63 rfl, D.free 64 rfl, D.free 65 rfl, D.free 66 rfl, D.free 67 rfl, D.free 68 rfl, D.free 69 rfl, D.free 70 rfl, D.free 71 rfl, D.free 72 rfl, D.free 73 rfl, D.free 74 rfl, D.free 75 rfl⟩
theorem Hd.lim (D : Hd w K mg h) : ∃ t, mg "LIMIT" = some (.int 20000 t) := He.int_ok D.X D.G (D.c.t.d.fact 76 (f := .int "LIMIT" 20000) rfl)
/-- the Bools, one by one -/
theorem exB_all (e : exB K = true) : ndB (tfL.map fun p => (He.cT K p).2) = true ∧ rcB K (He.ga K "Rounds") = true ∧ leB K (He.ga K "LeadError") = true ∧ He.tupB K "IN_BOTH" [.bl false, .bl false, .bl false, .bl true] = true ∧
    He.tupB K "IN_ONE_OR_BOTH" [.bl false, .bl true, .bl true, .bl true] = true ∧ He.tupB K "IN_FIRST_ALONE" [.bl false, .bl false, .bl true, .bl false] = true ∧
    (∀ x ∈ (["BadNumber", "BadRow", "TooMany"] : List Str), oexB K (He.ga K x) = true ∧ xfB K (He.ga K x) = true ∧ iniB K (He.ga K x) = true) ∧
    noB K (He.ga K "BadNumber") "what" = true ∧ noB K (He.ga K "BadNumber") "value" = true ∧ noB K (He.ga K "BadRow") "value" = true ∧ noB K (He.ga K "TooMany") "what" = true ∧ noB K (He.ga K "TooMany") "limit" = true ∧
    exmB K "BadNumber" "BadNumber" true = true ∧ exmB K "BadRow" "BadNumber" false = true ∧ exmB K "BadRow" "BadRow" true = true ∧ exmB K "TooMany" "BadNumber" false = true ∧ exmB K "TooMany" "BadRow" false = true ∧ exmB K "TooMany" "TooMany" true = true := by
  unfold exB at e
  simp only [Bool.and_eq_true] at e
  obtain ⟨a0, a1, a2, a3, a4, a5, a6, a7⟩ := e
  refine ⟨a0, a1, a2, a3, a4, a5, fun x hx => ?_, a7⟩
  have z := List.all_eq_true.mp a6 x hx
  simp only [Bool.and_eq_true] at z
  exact z
theorem rcB_all {C : Addr} (e : rcB K C = true) : PySem.W.selfFirst K C = true ∧ PySem.W.findIn K (.ref C) "__class__" = some (some (.builtin "object.__class__")) ∧ PySem.W.specialIn K (.builtin "object.__class__") "__get__" = some (some (.builtin "getset_descriptor.__get__")) ∧
    PySem.W.takesIn K (.builtin "object.__class__") = some true ∧ PySem.W.mroIn K C (.type "object") = some true ∧ PySem.W.kitOne K (.ref C) (.ref C) = some true := by
  unfold rcB at e
  simp only [Bool.and_eq_true] at e
  obtain ⟨e1, e2, e3, e4, e5, e6⟩ := e
  exact ⟨e1, of_decide_eq_true e2, of_decide_eq_true e3, of_decide_eq_true e4, of_decide_eq_true e5, of_decide_eq_true e6⟩
theorem Hd.rc (D : Hd w K mg h) : RC K mg (He.ga K "Rounds") := by
  obtain ⟨sf, ha, hn, htk, hm, me⟩ := rcB_all (exB_all D.c.more).2.1
  refine ⟨He.cls_ok (D.c.t.d.fact 77 (f := .cls "Rounds") rfl), fun f hf => ?_, D.glo 52 rfl, sf, ha, hn, htk, hm, me⟩
  simp only [List.mem_cons, List.not_mem_nil, or_false] at hf
  rcases hf with rfl | rfl | rfl | rfl
  · exact He.noat_ok (D.c.t.d.fact 79 (f := .noat "Rounds" "start") rfl)
  · exact He.noat_ok (D.c.t.d.fact 80 (f := .noat "Rounds" "below") rfl)
  · exact He.noat_ok (D.c.t.d.fact 81 (f := .noat "Rounds" "middle") rfl)
  · exact He.noat_ok (D.c.t.d.fact 82 (f := .noat "Rounds" "above") rfl)
theorem iniB_all {C : Addr} (e : iniB K C = true) : PySem.W.findIn K (.ref C) "__init__" = some (some (.ref (He.ma K C "__init__"))) ∧ PySem.W.typeIn K (.ref (He.ma K C "__init__")) = some (.type "function") := by
  unfold iniB at e
  rw [Bool.and_eq_true] at e
  exact ⟨of_decide_eq_true e.1, of_decide_eq_true e.2⟩
theorem Hd.er (D : Hd w K mg h) {x q : Str} {st : Stmt} {fs : List Str} (i j : Nat) (hx : x ∈ (["BadNumber", "BadRow", "TooMany"] : List Str)) (hd : fnL[i]? = some (dfM x "__init__" q st)) (hf : faL[j]? = some (.glo x)) (no : ∀ f ∈ fs, noB K (He.ga K x) f = true) : ErC K mg x (He.ga K x) q st fs := by
  obtain ⟨o, xf, ini⟩ := (exB_all D.c.more).2.2.2.2.2.2.1 x hx
  obtain ⟨i1, i2⟩ := iniB_all ini
  obtain ⟨fd, F⟩ := D.c.t.d.def_ i hd
  exact ⟨oexB_ok o, xfB_ok xf, D.glo j hf, ⟨_, fd, F, i1, i2⟩, fun f hf => of_decide_eq_true (no f hf)⟩
theorem Hd.bn (D : Hd w K mg h) : ErC K mg "BadNumber" (He.ga K "BadNumber") "BadNumber.__init__" s_BadNumber_init ["what", "value"] := by
  obtain ⟨_, _, _, _, _, _, _, n1, n2, _⟩ := exB_all D.c.more
  refine D.er 64 54 (.head _) rfl rfl fun f hf => ?_
  simp only [List.mem_cons, List.not_mem_nil, or_false] at hf
  rcases hf with rfl | rfl
  · exact n1
  · exact n2
theorem Hd.br (D : Hd w K mg h) : ErC K mg "BadRow" (He.ga K "BadRow") "BadRow.__init__" s_BadRow_init ["value"] := by
  obtain ⟨_, _, _, _, _, _, _, _, _, n1, _⟩ := exB_all D.c.more
  refine D.er 65 55 (.tail _ (.head _)) rfl rfl fun f hf => ?_
  simp only [List.mem_cons, List.not_mem_nil, or_false] at hf
  subst hf
  exact n1
theorem Hd.tm (D : Hd w K mg h) : ErC K mg "TooMany" (He.ga K "TooMany") "TooMany.__init__" s_TooMany_init ["what", "limit"] := by
  obtain ⟨_, _, _, _, _, _, _, _, _, _, n1, n2, _⟩ := exB_all D.c.more
  refine D.er 66 56 (.tail _ (.tail _ (.head _))) rfl rfl fun f hf => ?_
  simp only [List.mem_cons, List.not_mem_nil, or_false] at hf
  rcases hf with rfl | rfl
  · exact n1
  · exact n2
theorem Hd.ld (D : Hd w K mg h) : LdC K mg (He.ga K "LeadError") := ⟨leB_ok (exB_all D.c.more).2.2.1, D.glo 53 rfl⟩
theorem Hd.both (D : Hd w K mg h) : TabK K mg "IN_BOTH" := ⟨_, [false, false, false, true], D.glo 59 rfl, rfl, fun H => He.tupB_ok (exB_all D.c.more).2.2.2.1 H⟩
theorem Hd.oneOr (D : Hd w K mg h) : TabK K mg "IN_ONE_OR_BOTH" := ⟨_, [false, true, true, true], D.glo 60 rfl, rfl, fun H => He.tupB_ok (exB_all D.c.more).2.2.2.2.1 H⟩
theorem Hd.alone (D : Hd w K mg h) : TabK K mg "IN_FIRST_ALONE" := ⟨_, [false, false, true, false], D.glo 61 rfl, rfl, fun H => He.tupB_ok (exB_all D.c.more).2.2.2.2.2.1 H⟩
theorem Hd.exl (D : Hd w K mg h) : ExL K mg (He.ga K "BadNumber") (He.ga K "BadRow") (He.ga K "TooMany") (He.ga K "BadText") (He.ga K "BadPlace") := by
  obtain ⟨_, _, _, _, _, _, _, n1, n2, r1, t1, t2, x1, x2, x3, x4, x5, x6⟩ := exB_all D.c.more
  exact ⟨D.glo 54 rfl, D.glo 55 rfl, D.glo 56 rfl, D.glo 57 rfl, D.glo 58 rfl, of_decide_eq_true x1, of_decide_eq_true x2, of_decide_eq_true x3, of_decide_eq_true x4, of_decide_eq_true x5, of_decide_eq_true x6,
    D.bn.xf, D.br.xf, D.tm.xf, of_decide_eq_true n1, of_decide_eq_true n2, of_decide_eq_true r1, of_decide_eq_true t1, of_decide_eq_true t2⟩
theorem Hd.tab (D : Hd w K mg h) {mg' : Str → Option Value} {c Pt : Addr} {x : Str} {sc : Scope} (TB : LamX.TabB base mg' c Pt) (hm : (Pt, lamQ x sc) ∈ TTk K) : TabIn base mg' (TTk K) x sc c :=
  ⟨Pt, TB, hm, fun p hp e => congrArg Prod.snd (nd_uniq (l := TTk K) (exB_all D.c.more).1 p hp _ hm e)⟩
theorem ok_whole (D : Hd w K mg h) (TB : ∀ p ∈ csk K, LamX.TabB base mg p.1 p.2) : DfG P w K mg base 13 "law" ["_law_script"] (spLaw K (TTk K)) := by
  obtain ⟨tL, LM⟩ := D.lim
  have T := D.tx
  have R := D.rc
  have X5 := D.exl
  have T0 : TabIn base mg (TTk K) "_law_form" (defScope s_law_form) (He.cT K ("_law_form", none)).1 := D.tab (TB _ (.head _)) (.head _)
  have T1 : TabIn base mg (TTk K) "_law_refuses" (defScope s_law_refuses) (He.cT K ("_law_refuses", none)).1 := D.tab (TB _ (.tail _ (.head _))) (.tail _ (.head _))
  have T2 : TabIn base mg (TTk K) "_law_ranges" (defScope s_law_ranges) (He.cT K ("_law_ranges", none)).1 := D.tab (TB _ (.tail _ (.tail _ (.head _)))) (.tail _ (.tail _ (.head _)))
  have T3 : TabIn base mg (TTk K) "_law_steps" (defScope s_law_steps) (He.cT K ("_law_steps", none)).1 := D.tab (TB _ (.tail _ (.tail _ (.tail _ (.head _))))) (.tail _ (.tail _ (.tail _ (.head _))))
  have T4 : TabIn base mg (TTk K) "_law_middles" (defScope s_law_middles) (He.cT K ("_law_middles", none)).1 := D.tab (TB _ (.tail _ (.tail _ (.tail _ (.tail _ (.head _)))))) (.tail _ (.tail _ (.tail _ (.tail _ (.head _)))))
  have BN := ok_bn (P := P) (w := w) (base := base) D.bn D.ld
  have BR := ok_br (P := P) (w := w) (base := base) D.br D.ld
  have TM := ok_tm (P := P) (w := w) (base := base) D.tm D.ld
  have d_is_int := ok_is_int (P := P) (w := w) (base := base) (D.has 0 0 rfl rfl) T
  have d_is_row := ok_is_row (P := P) (w := w) (base := base) (D.has 1 1 rfl rfl) T
  have d_check := ok_check_int (P := P) (w := w) (base := base) (D.has 2 2 rfl rfl) d_is_int BN
  have d_gd := ok_gd (P := P) (w := w) (base := base) (D.has 3 3 rfl rfl) T
  have d_cm := ok_cm (P := P) (w := w) (base := base) (D.has 4 4 rfl rfl) d_gd
  have d_ls := ok_ls (P := P) (w := w) (base := base) (D.has 5 5 rfl rfl) T
  have d_rol := ok_rol (P := P) (w := w) (base := base) (D.has 6 6 rfl rfl) T
  have d_piece := ok_piece (P := P) (w := w) (base := base) (D.has 7 7 rfl rfl) T
  have d_mem := ok_mem (P := P) (w := w) (base := base) (D.has 8 8 rfl rfl) T d_piece
  have d_lm := ok_lm (P := P) (w := w) (base := base) (D.has 10 10 rfl rfl) T d_piece d_rol
  have d_of := ok_of (P := P) (w := w) (base := base) (D.has 9 9 rfl rfl) T d_ls d_rol d_lm
  have d_tr := ok_tr (P := P) (w := w) (base := base) (D.has 11 11 rfl rfl) T d_is_row
  have CK := ok_ri (P := P) (w := w) (base := base) D.hasI R T d_check d_tr d_of
  have m0 := ok_none (P := P) (w := w) (base := base) (D.has 17 17 rfl rfl) CK
  have m1 := ok_all_counts (P := P) (w := w) (base := base) (D.has 18 18 rfl rfl) CK
  have m2 := ok_just (P := P) (w := w) (base := base) (D.has 19 19 rfl rfl) CK d_check
  have m3 := ok_at_least (P := P) (w := w) (base := base) (D.has 20 20 rfl rfl) CK d_check
  have m4 := ok_at_most (P := P) (w := w) (base := base) (D.has 21 21 rfl rfl) CK d_check
  have m6 := ok_between (P := P) (w := w) (base := base) (D.has 22 22 rfl rfl) T LM CK d_check TM
  have m5 := ok_every (P := P) (w := w) (base := base) (D.has 23 23 rfl rfl) T LM CK d_is_int d_check BN
  have m7 := ok_listed (P := P) (w := w) (base := base) (D.has 24 24 rfl rfl) T LM CK d_is_int d_is_row m0 TM BR
  have d_end := ok_end (P := P) (w := w) (base := base) (D.has 12 12 rfl rfl) R T
  have q_thr := ok_thr (P := P) (w := w) (base := base) (D.hasM 52 83 rfl rfl) R T
  have q_con := ok_con (P := P) (w := w) (base := base) (D.hasM 53 84 rfl rfl) R T d_mem
  have q_boo := ok_boo (P := P) (w := w) (base := base) (D.hasM 54 85 rfl rfl) R T
  have d_mix := ok_mix (P := P) (w := w) (base := base) (D.has 14 14 rfl rfl) T q_con
  have d_jb := ok_jb (P := P) (w := w) (base := base) (D.has 15 15 rfl rfl) R T q_thr d_end
  have d_comb := ok_comb (P := P) (w := w) (base := base) (D.has 16 16 rfl rfl) R T LM d_cm d_jb d_mix CK TM
  have q_and := ok_and (P := P) (w := w) (base := base) (D.hasM 55 86 rfl rfl) D.both d_comb
  have q_or := ok_or (P := P) (w := w) (base := base) (D.hasM 56 87 rfl rfl) D.oneOr d_comb
  have q_sub := ok_sub (P := P) (w := w) (base := base) (D.hasM 57 88 rfl rfl) D.alone d_comb
  have q_within := ok_within (P := P) (w := w) (base := base) (D.hasM 60 91 rfl rfl) D.alone d_comb q_boo
  have q_apart := ok_apart (P := P) (w := w) (base := base) (D.hasM 61 92 rfl rfl) D.both d_comb q_boo
  have q_neg := ok_neg (P := P) (w := w) (base := base) (D.hasM 59 90 rfl rfl) R d_end CK
  have q_inv := ok_inv (P := P) (w := w) (base := base) (D.hasM 58 89 rfl rfl) R T CK
  have d_sr := ok_sr (P := P) (w := w) (base := base) (D.has 13 13 rfl rfl) T
  have q_sp1 := ok_spread (P := P) (w := w) (base := base) true (D.hasM 62 93 rfl rfl) R T LM d_check d_sr CK TM q_neg (fun z => nomatch z)
  have q_sp := ok_spread (P := P) (w := w) (base := base) false (D.hasM 62 93 rfl rfl) R T LM d_check d_sr CK TM q_neg (fun _ => q_sp1)
  have d_sums := ok_sums (P := P) (w := w) (base := base) (D.has 25 25 rfl rfl) R T LM TM
  have d_shifts := ok_shifts (P := P) (w := w) (base := base) (D.has 26 26 rfl rfl) d_sums q_neg q_inv
  have l_pen := ok_pen (P := P) (w := w) (base := base) (D.has 27 27 rfl rfl) T
  have l_draw := ok_draw (P := P) (w := w) (base := base) (D.has 28 28 rfl rfl) T
  have l_pick := ok_pick (P := P) (w := w) (base := base) (D.has 29 29 rfl rfl) T l_draw
  have l_far := ok_far (P := P) (w := w) (base := base) (D.has 30 30 rfl rfl) T l_draw l_pick
  have l_listed := ok_listedL (P := P) (w := w) (base := base) (D.has 32 32 rfl rfl) T l_pick
  have l_odd := ok_odd (P := P) (w := w) (base := base) (D.has 43 43 rfl rfl) l_pick
  have l_number := ok_number (P := P) (w := w) (base := base) (D.has 44 44 rfl rfl) l_draw l_pick l_far
  have l_int := ok_is_intL (P := P) (w := w) (base := base) (D.has 31 31 rfl rfl) T
  have l_told := ok_told (P := P) (w := w) (base := base) (D.has 38 38 rfl rfl) R
  have l_end := ok_lend (P := P) (w := w) (base := base) (D.has 34 34 rfl rfl) T
  have l_has := ok_has (P := P) (w := w) (base := base) (D.has 33 33 rfl rfl) T
  have l_step := ok_step (P := P) (w := w) (base := base) (D.has 36 36 rfl rfl) T
  have l_oddI := ok_oddI (P := P) (w := w) (base := base) (D.has 40 40 rfl rfl)
  have l_desc := ok_desc (P := P) (w := w) (base := base) (D.has 35 35 rfl rfl) T
  have l_form := ok_form (P := P) (w := w) (base := base) (D.hasT 37 37 rfl rfl) T0 T l_step l_end l_has l_desc
  have l_one := ok_isOne (P := P) (w := w) (base := base) (D.has 39 39 rfl rfl) T R l_int l_oddI l_told l_form
  have w8 := ok_why (P := P) (w := w) (base := base) (k := 8) (D.has 41 41 rfl rfl) T X5
  have w9 := ok_why (P := P) (w := w) (base := base) (k := 9) (D.has 41 41 rfl rfl) T X5
  have ws := ok_whys (P := P) (w := w) (base := base) (BT := He.ga K "BadText") (BP := He.ga K "BadPlace") (D.has 42 42 rfl rfl) w8
  have l_due := ok_due (P := P) (w := w) (base := base) (D.has 48 48 rfl rfl)
  have l_makes := ok_makes (P := P) (w := w) (base := base) (D.has 45 45 rfl rfl) T R l_number l_draw l_pick l_listed l_one m0 m1 m2 m3 m4 m5 m6 m7
  have l_ref := ok_refuses (P := P) (w := w) (base := base) (D.hasT 46 46 rfl rfl) T1 T l_int l_pick l_odd w8 ws m2 m3 m4 m5 m6 m7
  have l_ran := ok_ranges (P := P) (w := w) (base := base) (D.hasT 47 47 rfl rfl) T2 T R l_number l_draw l_pick w8 ws m2 m3 m5 m6 m7 q_or q_and q_sub q_within
  have l_ste := ok_steps (P := P) (w := w) (base := base) (D.hasT 49 49 rfl rfl) T3 T R l_pick l_due w8 w9 ws CK q_and q_apart q_neg q_sp d_sums d_shifts
  have l_mid := ok_middles (P := P) (w := w) (base := base) (D.hasT 50 50 rfl rfl) T4 T R l_pick l_number w9 ws CK m0 m6 q_and q_apart q_sp d_sums
  exact ok_law (D.has 51 51 rfl rfl) l_pen l_draw l_makes l_ref l_ste l_mid l_ran
end
end Rk
set_option maxHeartbeats 0
/-! The end. -/
namespace Rk
open PySem PySem.Spec PyProof.Rows L2
theorem tabs_of {K : PySem.W.Frag} {H : Hp} (hT : ∀ p ∈ csk K, H p.2 = some (.tbl #[])) : LamX.Tabs (TTk K) H := fun p hp => by
  have z : p.1 ∈ tfL.map fun q => (He.cT K q).2 := show p.1 ∈ (TTk K).map Prod.fst from List.mem_map.mpr ⟨p, hp, rfl⟩
  obtain ⟨q, hq, e⟩ := List.mem_map.mp z
  have e2 := hT (He.cT K q) (List.mem_map.mpr ⟨q, hq, rfl⟩)
  rw [e] at e2
  exact LamX.TabS.nil e2
abbrev qL : Program := PySem.W.view Rw.prog [80]
abbrev dL := HandSHeadRun.topDef Rw.prog 80
theorem nameL : dL.name = ("law" : Str) := by kernel_rfl
theorem walkL : PySem.W.WalkO qL namesL (PySem.W.XL qL []) hkL.says Rw.toRowW dL [] (fun f vs => PySem.call f vs) := by
  refine Att.attach_callB (l := PySem.Challenge.rw_anylead_k20_whole_makers_and_limits_of_s) (n := 63) rfl (by kernel_rfl) fun w s0 s1 mg mb fa o pm cd doc a vs ns G Y _ _ _ hm hobj hints hlen _ hg => ?_
  obtain ⟨K, KX, c⟩ := Y
  rw [nameL] at hm
  have L : Lain K mg mb (csk K) a vs s1 := by
    refine ⟨KX, G.T.g, G.T.b, G.T.builtins, G.T.nolimit, hg, fun p hp => ?_, fun p hp => ?_, fun p hp => ?_, G.T.bmain, hobj⟩
    all_goals obtain ⟨q, hq, rfl⟩ := List.mem_map.mp hp
    · exact c.empty q hq
    · exact c.out q hq
    · exact c.hd q hq
  refine L.call (k := 13) (x := "law") (ps := ["_law_script"]) hints (Nat.le_trans hlen (by decide)) ⟨rfl, by decide, by decide⟩ rfl hm (fun base _ _ TB => ok_whole (h := s1.heap) ⟨KX, G.T.g, c⟩ TB) fun H hT hS => ?_
  exact ⟨a, ns, rfl, hS, Nat.le_trans hlen (by decide), tabs_of hT, fun _ => rfl⟩
end Rk
open PySem PySem.W PySem.Calls PyProof.Rows
theorem PySem.Challenge.cw_anylead_k20_whole_makers_and_limits_of_s_holds : PySem.Challenge.rw_anylead_k20_whole_makers_and_limits_of_s.Holds := by
  w_on; o_law
  refine HandSHeadRun.head_any (r := Rk.Rw) (q := Rk.qL) (H := Rk.hkL) (ob := Rk.obL) (M := 6000) (loose := Rk.namesL) (d := Rk.dL) (kwd := []) Rk.obL_eq
    (by kernel_rfl) (fun s => by kernel_rfl) RkRun.runL (by kernel_rfl) (by kernel_rfl) (by kernel_rfl) (by rfl) (by first | assumption | decide +kernel) (by decide +kernel) ⟨rfl, rfl, rfl, rfl, rfl, by decide +kernel⟩ ?hw Rk.walkL
  case hw => w_witness2
