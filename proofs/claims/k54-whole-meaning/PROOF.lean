import PyProof.Rows.All
import Wide.All
import OpenK.AllK
import Wide.FinOn
import HandS.ForMost
import HandS.Walk
import HandS.Conv
import HandS.Strs
import HandS.IsInst
import HandS.Deep
import HandS.Wide
import HandS.EndBits
import HandS.Evl
import KE.GoesEnum
import PySem.Challenge.RW_ontoworks_k54_whole_meaning
set_option Elab.async false
set_option linter.all false
set_option maxRecDepth 100000
set_option maxHeartbeats 4000000
/-! own rules over the hand layer: ranges in names, tuples laid with their object known, in over tuples, tuple.index, enumerate(tuple) -/
namespace PySem
open Sem (wp)
open AutoSeq1 (wpAny_loadPart')
theorem kw_meets_enumT (l : Addr) (items : Array Value) (n : Nat) (dct : Option Addr) (sl : Array (Option Value)) :
    Meets (Builtin.«enumerate.__new__» ⟨[.type "enumerate", .ref l], []⟩) (fun _ R s => s.heap.get? l = some { cls := .type "tuple", dict := dct, data := .seq items n, slots := sl } ∧
      R (.ok (.ret (.ref (s.heap.push { cls := .type "tuple_iterator", data := .fields #[.ref l, .int 0 0] }).objs.size)))
        { s with heap := (s.heap.push { cls := .type "tuple_iterator", data := .fields #[.ref l, .int 0 0] }).push { cls := .type "enumerate", data := .fields #[.none, .bool false, .ref s.heap.objs.size, rawInt 0, .none, .none] } }) :=
  .of_wp fun prog w A R s h => by
    obtain ⟨hp, g, d, tk, os⟩ := s; obtain ⟨hl, h⟩ := h
    have hsub := sub_enumerate
    have hL : Heap.IsTuple (Shared.heap ⟨hp, g, d, tk, os⟩) l items := ⟨_, hl, rfl, n, rfl⟩
    wp_walk using wpAny_loadPart' hl
    refine wpAny_stack_any fun st => wpAny_pure ?_
    split
    · rename_i c _ _ _ _ _
      cases (c == Value.type "enumerate")
      · wp_walk using wpAny_loadPart' hl, wpAny_pyIter_tuple hL
        exact ⟨_, rfl, h⟩
      · wp_walk using wpAny_loadPart' hl, wpAny_pyIter_tuple hL
        exact ⟨_, rfl, h⟩
    · wp_walk using wpAny_loadPart' hl, wpAny_pyIter_tuple hL
      exact ⟨_, rfl, h⟩
theorem kw_call_enumT {prog : Program} {w : World} {A : Around} {E : Value → Shared → Prop} {s : Shared} {l : Addr} {items : Array Value} {Q : Value → Shared → Prop} (hL : s.heap.IsTuple l items)
    (h : ∀ h', IsEnum h' (s.heap.objs.size + 1) s.heap.objs.size 0 .none → h'.IsTupleIter s.heap.objs.size l 0 → h'.objs.size = s.heap.objs.size + 2 →
      (∀ b o, s.heap.get? b = some o → h'.get? b = some o) → Q (.ref (s.heap.objs.size + 1)) { s with heap := h' }) :
    wpAny (model prog w) A (call (.type "enumerate") [.ref l]) Q E s := by
  obtain ⟨⟨c, dct, dt, sl⟩, hl, hc, n, hd⟩ := hL
  replace hc : c = .type "tuple" := hc
  replace hd : dt = .seq items n := hd
  subst hc hd
  refine callType_new F.called_enumerate (by decide) (F.typeCall_enumerate_1 _) (F.newCall_enumerate_1 _) (fun obj => F.args_object_init_2 obj _) F.entry_enumerate_new
    (kw_meets_enumT l items n dct sl) ⟨hl, ?_⟩
  have hz : (s.heap.push { cls := .type "tuple_iterator", data := .fields #[.ref l, .int 0 0] }).objs.size = s.heap.objs.size + 1 := Heap.size_push ..
  show _ ∧ _
  rw [hz]
  have he : IsEnum ((s.heap.push { cls := .type "tuple_iterator", data := .fields #[.ref l, .int 0 0] }).push
      { cls := .type "enumerate", data := .fields #[.none, .bool false, .ref s.heap.objs.size, rawInt 0, .none, .none] }) (s.heap.objs.size + 1) s.heap.objs.size 0 .none := by
    have := Heap.get?_push_size (s.heap.push { cls := .type "tuple_iterator", data := .fields #[.ref l, .int 0 0] })
      (o := { cls := .type "enumerate", data := .fields #[.none, .bool false, .ref s.heap.objs.size, rawInt 0, .none, .none] }) rfl
    rw [hz] at this; exact this
  refine ⟨⟨_, he, rfl⟩, h _ he ⟨_, Heap.get?_push_of_some _ (Heap.get?_push_size _ rfl), rfl, rfl⟩ (by rw [Heap.size_push, hz]) fun b o x => Heap.get?_push_of_some _ (Heap.get?_push_of_some _ x)⟩
end PySem

namespace Kw
open PySem PySem.Spec PyProof.Rows L2
section
variable {X : Cx}
/-- range(j) as a value -/
theorem cr_range1 : CallR X (.type "range") (fun vs H Q => ∃ j, vs = [V.int j] ∧ ∀ p, H p = none → Q (.ref p) (upd H p (.rng 0 j))) := by
  intro pins s σ H vs us Q I r h
  obtain ⟨j, rfl, q⟩ := h
  obtain ⟨u1, rfl, ri⟩ := vals1 r
  obtain ⟨t, rfl⟩ := ri
  refine call_range_1 ⟨.ref s.heap.objs.size, upd H s.heap.objs.size (.rng 0 j), I.laid (t' := s.toks + 1 + 1) (fun b o e => Heap.get?_push_of_some _ e) (Nat.le_refl _) ?_, rfl, q _ (I.hok.fresh (Nat.le_refl _))⟩
  exact ⟨s.toks, t, s.toks + 1, Heap.get?_push_size _ rfl⟩
/-- a range object that a name holds, walked -/
def iRngO (tl : TE) : TI := fun σ H R => tl σ H fun x H1 => ∃ a n, x = .ref a ∧ H1 a = some (.rng 0 n) ∧ (-(2 ^ 62) ≤ n ∧ n < 2 ^ 62) ∧ R (Itr 0 n.toNat) H1
theorem pi_rng {tg l : Expr} {tl : TE} (hl : PE X l tl) : PI X tg l (iRngO tl) := by
  refine ⟨fun pins s σ H R I h => ?_⟩
  refine thn (hl.run pins s σ H _ I h) fun v s1 ⟨x, H1, I1, r1, q1⟩ => ?_
  obtain ⟨a, n, e, ha, ⟨b1, b2⟩, q⟩ := q1
  subst e
  cases r1
  obtain ⟨t, u, v', ho⟩ := (show ObjOk X.prog X.w H1 s1.heap a (.rng 0 n) from I1.hok a _ ha)
  refine wpAny_pyIter_range (r := a) (a := 0) (b := n) (c := 1) (t := t) (u := u) (v := v') ho (small_one (by decide) (by decide) b1 b2) ?_
  refine ⟨s1.heap.objs.size, [s1.heap.objs.size], _, _, H1, rfl, I1.kept (t' := s1.toks) fun b o e => Heap.get?_push_of_some _ e, turn_range _ 0 n.toNat, ?_, fun b hb => ?_, q⟩
  · have e1 : (0 : Int) + ((0 : Nat) : Int) * 1 = 0 := by simp
    have e2 : ((n.toNat : Nat) : Int) - ((0 : Nat) : Int) = Builtin.Range.rangeSize 0 n 1 := by rw [rangeSize_one]; split <;> omega
    show IsRangeIter _ _ ((0 : Int) + ((0 : Nat) : Int) * 1) (((n.toNat : Nat) : Int) - ((0 : Nat) : Int)) 1
    rw [e1, e2]
    exact Heap.get?_push_size _ rfl
  · have e : b = s1.heap.objs.size := by simpa using hb
    subst e
    exact I1.fpOk (Nat.le_refl _) (I1.hok.fresh (Nat.le_refl _))
/-- list(a range object) -/
theorem call_list_rng (hc : X.calm = true) : CallR X (.type "list") (fun vs H Q => ∃ p n, vs = [.ref p] ∧ H p = some (.rng 0 n) ∧ RgOk 0 n ∧ ∀ q, H q = none → Q (.ref q) (upd H q (.lst (rgV 0 n)))) := by
  intro pins s σ H vs us Q I r h
  obtain ⟨p, n, rfl, hp, ⟨b1, b2, b3, b4, b5⟩, q⟩ := h
  obtain ⟨u, rfl, ru⟩ := vals1 r
  cases (show u = Value.ref p from ru)
  obtain ⟨t, u', v', ho⟩ := (show ObjOk X.prog X.w H s.heap p (.rng 0 n) from I.hok p _ hp)
  refine call_list_range (n := (n - 0).toNat) (I.ok.hd hc) (r := p) (a := 0) (b := n) (c := 1) (t := t) (u := u') (v := v') ho (small_one b1 b2 b3 b4) (rangeSize_nat 0 n) b5 fun h' tk acc c' hk e' hi => ?_
  refine ⟨.ref s.heap.objs.size, upd H s.heap.objs.size (.lst (rgV 0 n)), I.laid hk (Nat.le_refl _) (show ObjOk X.prog X.w _ _ _ (.lst (rgV 0 n)) from ⟨?_, acc.toList, c', vals_rg hi, ?_⟩), rfl, q _ (I.hok.fresh (Nat.le_refl _))⟩
  · rw [rgV_length, sizeLine_eq]; omega
  · rw [Array.toArray_toList]; exact e'
/-- tuple(a list), the object known -/
theorem call_tuple_frz : CallR X (.type "tuple") (fun xs H Q => ∃ p ys, xs = [.ref p] ∧ SqL X.K H p ys ∧ ∀ l o, o.dict = none → H l = none → Q (.ref l) (upd H l (.frz o (.tup ys)))) := by
  intro pins s σ H xs us Q I r h
  obtain ⟨p, ys, rfl, hs, q⟩ := h
  obtain ⟨u, rfl, ru⟩ := vals1 r
  cases (show u = Value.ref p from ru)
  obtain ⟨its, rv, pl, hz⟩ := I.list hs
  refine call_tuple_list pl.isList (fun h' hk => ?_) (by rw [List.size_toArray, ← rv.length]; exact hz)
  have I1 : Inv X pins σ H { s with heap := h' } := I.kept (t' := s.toks) hk
  have ho : (h'.push { cls := .type "tuple", data := .seq its.toArray }).get? h'.objs.size = some { cls := .type "tuple", data := .seq its.toArray } := Heap.get?_push_size _ rfl
  have I2 : Inv X pins σ (upd H h'.objs.size (.frz { cls := .type "tuple", data := .seq its.toArray } (.tup ys))) { s with heap := h'.push { cls := .type "tuple", data := .seq its.toArray } } :=
    I1.laid (t' := s.toks) (fun b o e => Heap.get?_push_of_some _ e) (Nat.le_refl _) (show ObjOk X.prog X.w _ _ _ (.frz _ (.tup ys)) from ⟨ho, hz, its, rv, IsTup.new _ _⟩)
  exact ⟨.ref h'.objs.size, _, I2, rfl, q _ _ rfl (I1.hok.fresh (Nat.le_refl _))⟩
/-- t.index(x), t a tuple whose object is known -/
def tTix (to : TE) (t : TA) : TE := fun σ H Q => to σ H fun x H1 => ∃ p o ys, x = .ref p ∧ H1 p = some (.frz o (.tup (List.map V.str ys))) ∧ o.dict = none ∧ t σ H1 fun vs H2 => ∃ z j, vs = [.str z] ∧ H2 p = some (.frz o (.tup (List.map V.str ys))) ∧ ys[j]? = some z ∧ (∀ m, m < j → ys[m]? ≠ some z) ∧ Q (.int (j : Nat)) H2
theorem pe_tix {o e : Expr} {to : TE} {t : TA} {apos cpos : Pos} (ho : PE X o to) (ha : PA X [e] t)
    (hbase : attributeBase o "index" X.env (eval o X.env) = eval o X.env := by rfl)
    (hfew : ((backTo cpos (starEach [e] X.env)).all (fun x => !x.1) && (backToKw cpos (keywordEach [] X.env)).all (fun x => x.1.isSome)
      && decide ([e].length + ([] : List Keyword).length + (if ([] : List Keyword).isEmpty then 0 else 1) < 30)) = true := by rfl)
    (hline : (apos.endLine == cpos.line) = true := by rfl) (hs : starEach [e] X.env = (false, eval e X.env) :: starEach [] X.env := by rfl) (hplain : (backTo cpos (starEach [] X.env)).any (·.1) = false := by rfl) :
    PE X (.Call (.Attribute o "index" apos) [e] [] cpos) (tTix to t) := by
  refine ⟨fun pins s σ H Q I h => ?_⟩
  refine wpAny_Call_method_late hbase hfew hline rfl (thn (ho.run pins s σ H _ I h) fun v s1 ⟨x, H1, I1, r1, p, o, ys, ex, hp, hd, q1⟩ => ?_)
  subst ex
  cases (show v = Value.ref p from r1)
  obtain ⟨hob, ht⟩ := (show ObjOk X.prog X.w H1 s1.heap p (.frz o (.tup (List.map V.str ys))) from I1.hok p _ hp)
  obtain ⟨_, its, rv, ob, e1, e2, _⟩ := ht
  rw [e1] at hob
  cases hob
  refine ⟨"tuple", "tuple.index", F.plainAttrs_tuple, F.slot_tuple_index, F.type_tuple_index, ⟨_, e1, e2⟩, fun a ea => by cases ea; exact ⟨_, e1, hd⟩, ?_⟩
  have hA := ha.run cpos pins s1 σ H1 _ I1 q1
  rw [hs] at hA ⊢
  refine Calls.callWith_builtin (by show (false || (backTo cpos (starEach [] X.env)).any (·.1)) = false; rw [hplain] <;> rfl) (Calls.evalArgs_plain ?_)
  refine thn hA fun us s2 ⟨vs, H2, I2, r2, z, j, evs, hp2, hy, hno, q2⟩ => ?_
  exact mt_tup_index pins s2 σ H2 (.ref p) vs (.ref p) us Q I2 rfl r2 ⟨p, ys, z, j, rfl, evs, .inl (.inr ⟨_, hp2⟩), hy, hno, q2⟩
/-- a tuple display, the object known -/
def tTupF (t : TA) : TE := fun σ H Q => t σ H fun xs H1 => xs.length ≤ sizeLine ∧ ∀ p, H1 p = none → Q (.ref p) (upd H1 p (.tup xs))
/-- x in t, x in l, data of any depth -/
def rInDT (K : PySem.W.Frag) (neg : Bool) : R2 := fun x y H Q => ∃ d ds, Dp K H x d ∧ (Dp K H y (.list ds) ∨ Dp K H y (.tuple ds)) ∧ SeqAt.shaped d = true ∧ SeqAt.shaped (.list ds) = true ∧ Q (.bl (if neg then !(ds.any fun z => PyData.eqv z d) else ds.any fun z => PyData.eqv z d)) H
theorem op_inDT (hu : X.A.units + 65 < cLine) : OpR X (compareOp .In) (rInDT X.K false) := by
  intro pins s σ H x y v u Q I rx ry h
  obtain ⟨d, ds, hd, he, sd, se, q⟩ := h
  obtain ⟨as, r1⟩ := Dp.reads I d x v hd rx
  rcases he with he | he
  · obtain ⟨bs, r2⟩ := Dp.reads I (.list ds) y u he ry
    exact SeqAt.in_list_reads r2 r1 (SeqAt.canLay_of_shaped se) (SeqAt.canLay_of_shaped sd) (room_in_shaped sd hu) ⟨.bl _, H, I, rfl, q⟩
  · obtain ⟨bs, r2⟩ := Dp.reads I (.tuple ds) y u he ry
    exact SeqAt.in_tuple_reads r2 r1 (SeqAt.canLay_of_shaped se) (SeqAt.canLay_of_shaped sd) (room_in_shaped sd hu) ⟨.bl _, H, I, rfl, q⟩
theorem op_notInDT (hu : X.A.units + 65 < cLine) : OpR X (compareOp .NotIn) (rInDT X.K true) := by
  intro pins s σ H x y v u Q I rx ry h
  obtain ⟨d, ds, hd, he, sd, se, q⟩ := h
  obtain ⟨as, r1⟩ := Dp.reads I d x v hd rx
  rcases he with he | he
  · obtain ⟨bs, r2⟩ := Dp.reads I (.list ds) y u he ry
    exact SeqAt.notIn_list_reads r2 r1 (SeqAt.canLay_of_shaped se) (SeqAt.canLay_of_shaped sd) (room_in_shaped sd hu) ⟨.bl _, H, I, rfl, q⟩
  · obtain ⟨bs, r2⟩ := Dp.reads I (.tuple ds) y u he ry
    exact SeqAt.notIn_tuple_reads r2 r1 (SeqAt.canLay_of_shaped se) (SeqAt.canLay_of_shaped sd) (room_in_shaped sd hu) ⟨.bl _, H, I, rfl, q⟩
end
/-! ### enumerate(tuple) -/
def IteT (K : PySem.W.Frag) (a : Addr) : It :=
  ⟨fun i H => ∃ (xs : List V) (x : V), SqT K H a xs ∧ xs[i]? = some x, fun i H v H' => ∃ T x, v = .ref T ∧ H T = none ∧ H' = upd H T (.tup [.int (i : Nat), x]) ∧ ∀ xs, SqT K H a xs → xs[i]? = some x, fun i H => ∃ xs : List V, SqT K H a xs ∧ xs.length = i⟩
theorem tuple_it_draws {prog : Program} {w : World} {A : Around} (hh : A.handled = none) (it t : Addr) (hne : t ≠ it) (items : Array Value) :
    Draws prog w A it [it, t] items.size (fun i v => items[i]? = some v) (fun i h => h.IsTupleIter it t i ∧ h.IsTuple t items) := Draws.tuple hh it t hne items
theorem turn_enumT {P : Program} {w : World} {K : PySem.W.Frag} {elts : List Expr} {kk : Nat} {tpos : Pos} (a e it : Addr) (hai : a ≠ it) (hae : a ≠ e) :
    Turn P w K (.Tuple elts kk tpos) (IteT K a) [e, it] e (fun i h => (∃ old, IsEnum h e it ((i : Nat) : Int) old) ∧ h.IsTupleIter it a i ∧ e ≠ it) where
  mem := by simp
  obj := fun i h st b hb => by
    obtain ⟨⟨old, he⟩, ⟨o, ho, hc, hd⟩, _⟩ := st
    have e' : b = e ∨ b = it := by simpa using hb
    rcases e' with z | z
    · rw [z]; exact ⟨_, he, fun v q => nomatch q⟩
    · rw [z]; exact ⟨o, ho, fun v q => by rw [hd] at q; cases q⟩
  keep := fun i h h' st k => let ⟨⟨old, he⟩, hi, hne⟩ := st; ⟨⟨old, k e (by simp) _ he⟩, hi.at fun o q => k it (by simp) o q, hne⟩
  item := by
    intro X hP hw hK hc i pins s σ H E I hf st hg
    subst hP hw hK
    obtain ⟨⟨old, he⟩, hit, hne⟩ := st
    obtain ⟨xs, x, hq, hx⟩ := hg
    obtain ⟨its, rv, p, hz⟩ := I.tuple hq
    obtain ⟨u, hu, ru⟩ := rv.get hx
    have hel : e < s.heap.objs.size := Heap.lt_size he
    have hil : it < s.heap.objs.size := by obtain ⟨_, q, _⟩ := hit; exact Heap.lt_size q
    have hps : s.heap.IsTuple a its.toArray := p
    have hin : i < its.toArray.size := by
      have := (List.getElem?_eq_some_iff.mp hu).1
      simpa using this
    have hea : e ∉ [it, a] := by
      intro hm
      rcases List.mem_cons.mp hm with z | z
      · exact hne z
      · exact hae (List.mem_singleton.mp z).symm
    refine wpAny_pyNext_enum_itemD (tuple_it_draws (A := X.A.in1) (I.ok.hd hc) it a hai its.toArray) he ⟨hit, hps⟩ hin hne hea fun x' h' tk hP' ho hit' hT hsz hk => ?_
    have ex' : x' = u := by
      have h1 : its.toArray[i]? = some u := by simpa using hu
      rw [h1] at hP'
      exact (Option.some.inj hP').symm
    subst ex'
    refine ⟨_, rfl, wpAny_letOwnedTupleGo_enum (s := { s with heap := h', toks := tk + 1 }) ho fun h'' he' sb => ?_⟩
    have hT2 : h''.get? s.heap.objs.size = some { cls := .type "tuple", data := .seq #[.int i tk, x'] } := (sb.2 _ (Nat.ne_of_gt hel)).trans hT
    have new : ObjOk X.prog X.w (upd H s.heap.objs.size (.tup [.int (i : Nat), x])) h'' s.heap.objs.size (.tup [.int (i : Nat), x]) :=
      ⟨by show 2 ≤ sizeLine; decide, [.int i tk, x'], .cons ⟨_, rfl⟩ (.cons ru .nil), ⟨_, hT2, rfl, _, rfl⟩⟩
    have I1 : Inv X pins σ (upd H s.heap.objs.size (.tup [.int (i : Nat), x])) { s with heap := h'', toks := tk + 1 } :=
      I.turnedNew (ch := [e, it]) (fun b ob hb q => (sb.2 b (fun z => hb (by simp [z]))).trans (hk b ob (fun z => hb (by simp [z])) (fun z => hb (by simp [z])) q)) hf (Nat.le_refl _) new
    refine ⟨.ref s.heap.objs.size, _, I1, rfl, ⟨_, x, rfl, I.hok.fresh (Nat.le_refl _), rfl, fun ys hy => by rw [I.tuple_inj hy hq]; exact hx⟩, ⟨⟨x', ?_⟩, hit'.1.at fun o q => (sb.2 it (Ne.symm hne)).trans q, hne⟩, fun b hb => ?_⟩
    · have e1 : ((i + 1 : Nat) : Int) = (i : Int) + 1 := by omega
      rw [e1]; exact he'
    · have hb' : b < s.heap.objs.size := by
        have e' : b = e ∨ b = it := by simpa using hb
        rcases e' with z | z
        · rw [z]; exact hel
        · rw [z]; exact hil
      rw [upd_ne (Nat.ne_of_lt hb')]
      exact (hf b hb).1
  done := by
    intro X hP hw hK hc i pins s σ H E I hf st hg
    subst hP hw hK
    obtain ⟨⟨old, he⟩, hit, hne⟩ := st
    obtain ⟨xs, hq, hx⟩ := hg
    obtain ⟨its, rv, p, hz⟩ := I.tuple hq
    obtain ⟨f0, f1, f2, f3, f4, f5⟩ := hf it (by simp)
    have hl := rv.length
    have D := tuple_it_draws (prog := X.prog) (w := X.w) (A := X.A.in1) (I.ok.hd hc) it a hai its.toArray
    have ei : i = its.toArray.size := by rw [List.size_toArray, ← hl, hx]
    have hit' : s.heap.IsTupleIter it a its.toArray.size := by rw [← ei]; exact hit
    exact wpAny_pyNext_enum_endD D he ⟨hit', show s.heap.IsTuple a its.toArray from p⟩ fun h' eb => ⟨rfl, I.turned (t' := s.toks) (fun b o hb q => eb b o hb q) f0 f1 f3 f4 f5⟩
  self := fun A i s Q E st h => let ⟨⟨_, he⟩, _⟩ := st; wpAny_pyIter_enum he h
def iEnumT (K : PySem.W.Frag) (ta : TA) : TI := fun σ H R => ta σ H fun vs H1 => ∃ a xs, vs = [.ref a] ∧ SqT K H1 a xs ∧ R (IteT K a) H1
theorem pi_enumT {X : Cx} {e : Expr} {ta : TA} {p pos tpos : Pos} {elts : List Expr} {kk : Nat} (hg : Gl X "enumerate") (hm : X.mg "enumerate" = none) (ha : PA X [e] ta) (hs : starEach [e] X.env = [(false, eval e X.env)] := by rfl) :
    PI X (.Tuple elts kk tpos) (.Call (.Name "enumerate" p) [e] [] pos) (iEnumT X.K ta) := by
  refine ⟨fun pins s σ H R I h => ?_⟩
  refine Call_ (ld_blt I hg hm boot_enumerate (PyProof.Rows.callWith_type1 (thn (ha.run pos pins s σ H _ I h) fun us s1 ⟨vs, H1, I1, r1, q1⟩ => ?_) hs rfl))
  obtain ⟨a, xs, ex, hq, q⟩ := q1
  subst ex
  cases r1 with
  | cons r rr =>
    cases rr
    cases r
    obtain ⟨its, rv, p', hz⟩ := I1.tuple hq
    have hal : a < s1.heap.objs.size := p'.lt
    refine kw_call_enumT (show s1.heap.IsTuple a its.toArray from p') fun h' he hit hsz hk => wpAny_pyIter_enum he ?_
    have I2 : Inv X pins σ H1 { s1 with heap := h' } := I1.kept (t' := s1.toks) hk
    refine ⟨s1.heap.objs.size + 1, [s1.heap.objs.size + 1, s1.heap.objs.size], _, _, H1, rfl, I2, turn_enumT a (s1.heap.objs.size + 1) s1.heap.objs.size (Nat.ne_of_lt hal) (Nat.ne_of_lt (Nat.lt_succ_of_lt hal)), ⟨⟨.none, he⟩, hit, Nat.succ_ne_self _⟩, fun b hb => ?_, q⟩
    have e' : b = s1.heap.objs.size + 1 ∨ b = s1.heap.objs.size := by simpa using hb
    have hle : s1.heap.objs.size ≤ b := by
      rcases e' with z | z
      · rw [z]; exact Nat.le_add_right _ _
      · rw [z]; exact Nat.le_refl _
    exact I1.fpOk hle (I1.hok.fresh hle)
end Kw

/-! data over the abstract heap, and a weakest-precondition reading over data -/
namespace Kw
open PySem PySem.Spec PyProof.Rows L2 Evl

/-! ### data -/
inductive Da where
  | non | bl (b : Bool) | int (i : Int) | str (s : Str) | lst (xs : List Da) | tup (xs : List Da) | nam (ss : List Str) | rng (n : Int)
mutual
def Da.py : Da → PyData
  | .non => .none
  | .bl b => .bool b
  | .int i => .int i
  | .str s => .str s
  | .lst xs => .list (Da.pyAll xs)
  | .tup xs => .tuple (Da.pyAll xs)
  | .nam _ => .none
  | .rng _ => .none
def Da.pyAll : List Da → List PyData
  | [] => []
  | d :: ds => Da.py d :: Da.pyAll ds
end
mutual
/-- no names tuple, no range within; and its depth is below n -/
def Da.pl : Nat → Da → Bool
  | _, .nam _ => false
  | _, .rng _ => false
  | 0, .lst _ => false
  | 0, .tup _ => false
  | n + 1, .lst xs => Da.plAll n xs
  | n + 1, .tup xs => Da.plAll n xs
  | _, .non => true
  | _, .bl _ => true
  | _, .int _ => true
  | _, .str x => PyData.strOk x
def Da.plAll : Nat → List Da → Bool
  | _, [] => true
  | n, d :: ds => Da.pl n d && Da.plAll n ds
end
theorem Da.plAll_of {n : Nat} : ∀ {ds : List Da}, (∀ d ∈ ds, Da.pl n d = true) → Da.plAll n ds = true
  | [], _ => by simp [Da.plAll]
  | d :: ds, h => by
    simp only [Da.plAll, Bool.and_eq_true]
    exact ⟨h d List.mem_cons_self, Da.plAll_of fun e he => h e (List.mem_cons_of_mem _ he)⟩
theorem Da.pyAll_map (ds : List Da) : Da.pyAll ds = ds.map Da.py := by
  induction ds with
  | nil => simp [Da.pyAll]
  | cons d ds ih => simp [Da.pyAll, ih]
mutual
inductive Dq (K : PySem.W.Frag) (H : Hp) : V → Da → Prop
  | non : Dq K H .non .non
  | bl (b : Bool) : Dq K H (.bl b) (.bl b)
  | int (i : Int) : Dq K H (.int i) (.int i)
  | str (x : Str) : Dq K H (.str x) (.str x)
  | lst {a : Addr} {xs : List V} {ds : List Da} : SqL K H a xs → DqAll K H xs ds → Dq K H (.ref a) (.lst ds)
  | tup {a : Addr} {xs : List V} {ds : List Da} : SqT K H a xs → DqAll K H xs ds → Dq K H (.ref a) (.tup ds)
  | nam {a : Addr} {o : Obj} {ss : List Str} : H a = some (.frz o (.tup (ss.map V.str))) → o.dict = none → Dq K H (.ref a) (.nam ss)
  | rng {a : Addr} {n : Int} : H a = some (.rng 0 n) → Dq K H (.ref a) (.rng n)
inductive DqAll (K : PySem.W.Frag) (H : Hp) : List V → List Da → Prop
  | nil : DqAll K H [] []
  | cons {v : V} {vs : List V} {d : Da} {ds : List Da} : Dq K H v d → DqAll K H vs ds → DqAll K H (v :: vs) (d :: ds)
end
section
variable {K : PySem.W.Frag} {H H' : Hp}
mutual
theorem Dq.ex (e : Ex H H') : ∀ (d : Da) (v : V), Dq K H v d → Dq K H' v d
  | .non, _, h => by cases h; exact .non
  | .bl b, _, h => by cases h; exact .bl b
  | .int i, _, h => by cases h; exact .int i
  | .str x, _, h => by cases h; exact .str x
  | .lst ds, _, h => by
    cases h with
    | lst hs ha => exact .lst (ex_l e hs) (DqAll.ex e ds _ ha)
  | .tup ds, _, h => by
    cases h with
    | tup hs ha => exact .tup (ex_t e hs) (DqAll.ex e ds _ ha)
  | .nam ss, _, h => by
    cases h with
    | nam hs hd => exact .nam (e _ _ hs) hd
  | .rng n, _, h => by
    cases h with
    | rng hs => exact .rng (e _ _ hs)
theorem DqAll.ex (e : Ex H H') : ∀ (ds : List Da) (vs : List V), DqAll K H vs ds → DqAll K H' vs ds
  | [], _, h => by cases h; exact .nil
  | d :: ds, _, h => by
    cases h with
    | cons h1 h2 => exact .cons (Dq.ex e d _ h1) (DqAll.ex e ds _ h2)
end
theorem Dq.to (h : Dq K H v d) (e : Ex H H') : Dq K H' v d := Dq.ex e d v h
theorem DqAll.to (h : DqAll K H vs ds) (e : Ex H H') : DqAll K H' vs ds := DqAll.ex e ds vs h
mutual
theorem Dq.dp : ∀ (n : Nat) (d : Da) (v : V), Da.pl n d = true → Dq K H v d → Dp K H v d.py
  | _, .non, _, _, h => by cases h; exact .non
  | _, .bl b, _, _, h => by cases h; exact .bl b
  | _, .int i, _, _, h => by cases h; exact .int i
  | _, .str x, _, _, h => by cases h; exact .str x
  | 0, .lst ds, _, p, _ => by simp [Da.pl] at p
  | 0, .tup ds, _, p, _ => by simp [Da.pl] at p
  | n + 1, .lst ds, _, p, h => by
    cases h with
    | lst hs ha => exact .lst hs (DqAll.dp n ds _ p ha)
  | n + 1, .tup ds, _, p, h => by
    cases h with
    | tup hs ha => exact .tup hs (DqAll.dp n ds _ p ha)
  | _, .nam ss, _, p, _ => by simp [Da.pl] at p
  | _, .rng k, _, p, _ => by simp [Da.pl] at p
theorem DqAll.dp : ∀ (n : Nat) (ds : List Da) (vs : List V), Da.plAll n ds = true → DqAll K H vs ds → DpAll K H vs (Da.pyAll ds)
  | _, [], _, _, h => by cases h; exact .nil
  | n, d :: ds, _, p, h => by
    simp only [Da.plAll, Bool.and_eq_true] at p
    cases h with
    | cons h1 h2 => exact .cons (Dq.dp n d _ p.1 h1) (DqAll.dp n ds _ p.2 h2)
end
mutual
theorem py_ok : ∀ (n : Nat) (d : Da), Da.pl n d = true → d.py.canLay0 = true ∧ d.py.depth ≤ n
  | _, .non, _ => by simp [Da.py, PyData.canLay0, PyData.depth]
  | _, .bl b, _ => by simp [Da.py, PyData.canLay0, PyData.depth]
  | _, .int i, _ => by simp [Da.py, PyData.canLay0, PyData.depth]
  | _, .str x, p => by
    simp only [Da.pl] at p
    simp [Da.py, PyData.canLay0, PyData.depth, p]
  | 0, .lst ds, p => by simp [Da.pl] at p
  | 0, .tup ds, p => by simp [Da.pl] at p
  | n + 1, .lst ds, p => by
    have q := pyAll_ok n ds p
    simp only [Da.py, PyData.canLay0, PyData.depth]
    exact ⟨q.1, by omega⟩
  | n + 1, .tup ds, p => by
    have q := pyAll_ok n ds p
    simp only [Da.py, PyData.canLay0, PyData.depth]
    exact ⟨q.1, by omega⟩
  | _, .nam ss, p => by simp [Da.pl] at p
  | _, .rng k, p => by simp [Da.pl] at p
theorem pyAll_ok : ∀ (n : Nat) (ds : List Da), Da.plAll n ds = true → PyData.canLayAll0 (Da.pyAll ds) = true ∧ PyData.depthAll (Da.pyAll ds) ≤ n
  | _, [], _ => by simp [Da.pyAll, PyData.canLayAll0, PyData.depthAll]
  | n, d :: ds, p => by
    simp only [Da.plAll, Bool.and_eq_true] at p
    have q1 := py_ok n d p.1
    have q2 := pyAll_ok n ds p.2
    simp only [Da.pyAll, PyData.canLayAll0, PyData.depthAll, Bool.and_eq_true]
    exact ⟨⟨q1.1, q2.1⟩, by omega⟩
end
theorem py_shaped {n : Nat} {d : Da} (h : Da.pl n d = true) (hn : n ≤ 60) : SeqAt.shaped d.py = true := by
  have q := py_ok n d h
  show (d.py.canLay0 && decide (d.py.depth ≤ 64)) = true
  rw [Bool.and_eq_true]
  exact ⟨q.1, decide_eq_true (by omega)⟩
theorem DqAll.len : ∀ {vs : List V} {ds : List Da}, DqAll K H vs ds → vs.length = ds.length
  | _, _, .nil => rfl
  | _, _, .cons _ h => by rw [List.length_cons, List.length_cons, DqAll.len h]
theorem DqAll.get : ∀ {vs : List V} {ds : List Da} {i : Nat} {d : Da}, DqAll K H vs ds → ds[i]? = some d → ∃ v, vs[i]? = some v ∧ Dq K H v d
  | _, _, _, _, .nil, e => by simp at e
  | _, _, 0, _, .cons h _, e => by simp at e; subst e; exact ⟨_, rfl, h⟩
  | _, _, i + 1, _, .cons _ t, e => by
    obtain ⟨v, h1, h2⟩ := DqAll.get (i := i) t (by simpa using e)
    exact ⟨v, by simpa using h1, h2⟩
theorem DqAll.get' : ∀ {vs : List V} {ds : List Da} {i : Nat} {v : V}, DqAll K H vs ds → vs[i]? = some v → ∃ d, ds[i]? = some d ∧ Dq K H v d
  | _, _, _, _, .nil, e => by simp at e
  | _, _, 0, _, .cons h _, e => by simp at e; subst e; exact ⟨_, rfl, h⟩
  | _, _, i + 1, _, .cons _ t, e => by
    obtain ⟨d, h1, h2⟩ := DqAll.get' (i := i) t (by simpa using e)
    exact ⟨d, by simpa using h1, h2⟩
theorem DqAll.snoc : ∀ {vs : List V} {ds : List Da} {v : V} {d : Da}, DqAll K H vs ds → Dq K H v d → DqAll K H (vs ++ [v]) (ds ++ [d])
  | _, _, _, _, .nil, h => .cons h .nil
  | _, _, _, _, .cons h t, q => .cons h (DqAll.snoc t q)
theorem DqAll.app : ∀ {vs ws : List V} {ds es : List Da}, DqAll K H vs ds → DqAll K H ws es → DqAll K H (vs ++ ws) (ds ++ es)
  | _, _, _, _, .nil, h => h
  | _, _, _, _, .cons h t, q => .cons h (DqAll.app t q)
theorem DqAll.take : ∀ {vs : List V} {ds : List Da} (n : Nat), DqAll K H vs ds → DqAll K H (vs.take n) (ds.take n)
  | _, _, 0, _ => .nil
  | _, _, _ + 1, .nil => .nil
  | _, _, n + 1, .cons h t => .cons h (DqAll.take n t)
theorem DqAll.drop : ∀ {vs : List V} {ds : List Da} (n : Nat), DqAll K H vs ds → DqAll K H (vs.drop n) (ds.drop n)
  | _, _, 0, h => h
  | _, _, _ + 1, .nil => .nil
  | _, _, n + 1, .cons _ t => DqAll.drop n t
theorem DqAll.intAll : ∀ (ns : List Int), DqAll K H (ns.map V.int) (ns.map Da.int)
  | [] => .nil
  | n :: ns => .cons (.int n) (DqAll.intAll ns)
theorem DqAll.bools : ∀ (bs : List Bool) (vs : List V), DqAll K H vs (bs.map Da.bl) → vs = bs.map V.bl
  | [], _, h => by cases h; rfl
  | b :: bs, _, h => by
    cases h with
    | cons h1 h2 =>
      cases h1
      rw [DqAll.bools bs _ h2]
      rfl
theorem DqAll.strs : ∀ (ss : List Str) (vs : List V), DqAll K H vs (ss.map Da.str) → vs = ss.map V.str
  | [], _, h => by cases h; rfl
  | b :: bs, _, h => by
    cases h with
    | cons h1 h2 =>
      cases h1
      rw [DqAll.strs bs _ h2]
      rfl
theorem DqAll.intsEq : ∀ (ss : List Int) (vs : List V), DqAll K H vs (ss.map Da.int) → vs = ss.map V.int
  | [], _, h => by cases h; rfl
  | b :: bs, _, h => by
    cases h with
    | cons h1 h2 =>
      cases h1
      rw [DqAll.intsEq bs _ h2]
      rfl
end

/-! ### hidden heaps, contexts -/
def hd (Z : List Addr) (H : Hp) : Hp := fun a => if a ∈ Z then none else H a
theorem hd_ex (Z : List Addr) (H : Hp) : Ex (hd Z H) H := fun a o h => by
  unfold hd at h
  split at h
  · cases h
  · exact h
theorem hd_in {Z : List Addr} {H : Hp} {a : Addr} {o : HO} (h : a ∉ Z) (e : H a = some o) : hd Z H a = some o := by
  unfold hd
  rw [if_neg h]
  exact e
theorem hd_sub {Z Z' : List Addr} {H : Hp} (h : ∀ z ∈ Z', z ∈ Z) : Ex (hd Z H) (hd Z' H) := fun a o e => by
  unfold hd at e ⊢
  split at e
  · cases e
  · rename_i n
    rw [if_neg fun q => n (h a q)]
    exact e
theorem hd_upd_in {Z : List Addr} {H : Hp} {a : Addr} {o : HO} (h : a ∈ Z) : hd Z (upd H a o) = hd Z H := by
  funext b
  unfold hd
  split
  · rfl
  · rename_i n
    rw [upd_ne (fun e => n (by rw [e]; exact h))]
theorem hd_new {Z : List Addr} {H : Hp} {p : Addr} {o : HO} (h : H p = none) : Ex (hd Z H) (hd Z (upd H p o)) := fun b x e => by
  unfold hd at e ⊢
  split at e
  · cases e
  · rename_i n
    rw [if_neg n, upd_ne (ne_of_none e h)]
    exact e
/-- a list of ints, whichever -/
def IL (H : Hp) (d : Addr) : Prop := ∃ ns : List Int, H d = some (.lst (ns.map V.int))
/-- Z: what may change, hidden from data; dl: lists of ints that are drawn from; w: a heap that is known to stand -/
structure Cn where
  Z : List Addr
  dl : List Addr
  w : Hp
structure Rl (dl : List Addr) (H H' : Hp) : Prop where
  keep : ∀ a o, a ∉ dl → H a = some o → H' a = some o
  drw : ∀ d, d ∈ dl → IL H d → IL H' d
theorem Rl.refl (dl : List Addr) (H : Hp) : Rl dl H H := ⟨fun _ _ _ h => h, fun _ _ h => h⟩
theorem Rl.trans {dl : List Addr} {H H1 H2 : Hp} (a : Rl dl H H1) (b : Rl dl H1 H2) : Rl dl H H2 := ⟨fun x o n h => b.keep x o n (a.keep x o n h), fun d m h => b.drw d m (a.drw d m h)⟩
theorem Rl.of_ex {dl : List Addr} {H H' : Hp} (e : Ex H H') : Rl dl H H' := ⟨fun a o _ h => e a o h, fun d _ ⟨ns, h⟩ => ⟨ns, e d _ h⟩⟩
theorem Rl.new {dl : List Addr} {H : Hp} {p : Addr} {o : HO} (h : H p = none) : Rl dl H (upd H p o) := .of_ex (Ex.new h)
structure Ok (c : Cn) (H : Hp) : Prop where
  live : ∀ z ∈ c.Z, ∃ o, H z = some o
  dlz : ∀ d ∈ c.dl, d ∈ c.Z ∧ IL H d
  kn : Ex c.w (hd c.Z H)
theorem Rl.ex {c : Cn} {H H' : Hp} (r : Rl c.dl H H') (ok : Ok c H) : Ex (hd c.Z H) (hd c.Z H') := fun a o e => by
  unfold hd at e ⊢
  split at e
  · cases e
  · rename_i n
    rw [if_neg n]
    exact r.keep a o (fun q => n (ok.dlz a q).1) e
theorem Ok.mono {c : Cn} {H H' : Hp} (ok : Ok c H) (r : Rl c.dl H H') : Ok c H' := by
  refine ⟨fun z hz => ?_, fun d hd => ⟨(ok.dlz d hd).1, r.drw d hd (ok.dlz d hd).2⟩, ok.kn.trans (r.ex ok)⟩
  by_cases h : z ∈ c.dl
  · obtain ⟨ns, e⟩ := r.drw z h (ok.dlz z h).2
    exact ⟨_, e⟩
  · obtain ⟨o, e⟩ := ok.live z hz
    exact ⟨o, r.keep z o h e⟩
theorem Ok.fresh {c : Cn} {H : Hp} {p : Addr} (ok : Ok c H) (h : H p = none) : p ∉ c.Z := fun hp => by
  obtain ⟨o, e⟩ := ok.live p hp
  rw [h] at e
  cases e
theorem Rl.back {c : Cn} {H H' : Hp} {p : Addr} (r : Rl c.dl H H') (ok : Ok c H') (h : H' p = none) : H p = none := by
  cases e : H p with
  | none => rfl
  | some o =>
    by_cases q : p ∈ c.dl
    · obtain ⟨ns, e2⟩ := (ok.dlz p q).2
      rw [h] at e2
      cases e2
    · have := r.keep p o q e
      rw [h] at this
      cases this

/-! ### slots -/
inductive SD where
  | no | dat (d : Da) | ml (a : Addr) (ds : List Da) | il (a : Addr)
def SdOk (K : PySem.W.Frag) (c : Cn) (H : Hp) (x : Option V) : SD → Prop
  | .no => True
  | .dat d => ∃ v, x = some v ∧ Dq K (hd c.Z H) v d
  | .ml a ds => x = some (.ref a) ∧ a ∈ c.Z ∧ a ∉ c.dl ∧ ∃ vs, H a = some (.lst vs) ∧ DqAll K (hd c.Z H) vs ds
  | .il a => x = some (.ref a) ∧ a ∈ c.dl
inductive Sl (K : PySem.W.Frag) (c : Cn) (H : Hp) : List (Option V) → List SD → Prop
  | nil : Sl K c H [] []
  | cons {x : Option V} {e : SD} {xs : List (Option V)} {es : List SD} : SdOk K c H x e → Sl K c H xs es → Sl K c H (x :: xs) (e :: es)
inductive SLe : List SD → List SD → Prop
  | nil : SLe [] []
  | same {e : SD} {es fs : List SD} : SLe es fs → SLe (e :: es) (e :: fs)
  | no {e : SD} {es fs : List SD} : SLe es fs → SLe (e :: es) (.no :: fs)
theorem SLe.refl : ∀ es : List SD, SLe es es
  | [] => .nil
  | _ :: es => .same (SLe.refl es)
/-- no list at a but in slot i -/
def NoAl (b : Addr) : List SD → Prop
  | [] => True
  | .ml a _ :: r => a ≠ b ∧ NoAl b r
  | _ :: r => NoAl b r
section
variable {K : PySem.W.Frag} {c c' : Cn} {H H' : Hp}
structure Stp (K : PySem.W.Frag) (c : Cn) (H : Hp) (c' : Cn) (H' : Hp) : Prop where
  ex : Ex (hd c.Z H) (hd c'.Z H')
  sub : ∀ z ∈ c.Z, z ∈ c'.Z
  dls : ∀ z ∈ c.dl, z ∈ c'.dl
  mls : ∀ a ∈ c.Z, a ∉ c.dl → a ∉ c'.dl ∧ H' a = H a
theorem SdOk.step {x : Option V} : ∀ {e : SD}, Stp K c H c' H' → SdOk K c H x e → SdOk K c' H' x e
  | .no, _, _ => trivial
  | .dat _, s, ⟨v, h1, h2⟩ => ⟨v, h1, h2.to s.ex⟩
  | .ml a _, s, ⟨h1, h2, h3, vs, h4, h5⟩ => ⟨h1, s.sub a h2, (s.mls a h2 h3).1, vs, (s.mls a h2 h3).2.trans h4, h5.to s.ex⟩
  | .il a, s, ⟨h1, h2⟩ => ⟨h1, s.dls a h2⟩
theorem Sl.step (s : Stp K c H c' H') : ∀ {xs : List (Option V)} {es : List SD}, Sl K c H xs es → Sl K c' H' xs es
  | _, _, .nil => .nil
  | _, _, .cons h t => .cons (h.step s) (Sl.step s t)
theorem Rl.stp (r : Rl c.dl H H') (ok : Ok c H) : Stp K c H c H' where
  ex := r.ex ok
  sub := fun _ h => h
  dls := fun _ h => h
  mls := fun a h n => ⟨n, by
    obtain ⟨o, e⟩ := ok.live a h
    rw [e, r.keep a o n e]⟩
theorem Sl.mono {xs : List (Option V)} {es : List SD} (s : Sl K c H xs es) (r : Rl c.dl H H') (ok : Ok c H) : Sl K c H' xs es := Sl.step (r.stp ok) s
theorem Sl.get : ∀ {xs : List (Option V)} {es : List SD} {i : Nat} {e : SD}, Sl K c H xs es → es[i]? = some e → ∃ x, xs[i]? = some x ∧ SdOk K c H x e
  | _, _, _, _, .nil, q => by simp at q
  | _, _, 0, _, .cons h _, q => by simp at q; subst q; exact ⟨_, rfl, h⟩
  | _, _, i + 1, _, .cons _ t, q => by
    obtain ⟨x, h1, h2⟩ := Sl.get (i := i) t (by simpa using q)
    exact ⟨x, by simpa using h1, h2⟩
theorem Sl.set : ∀ {xs : List (Option V)} {es : List SD} (i : Nat) {x : Option V} {e : SD}, Sl K c H xs es → SdOk K c H x e → Sl K c H (xs.set i x) (es.set i e)
  | _, _, _, _, _, .nil, _ => .nil
  | _, _, 0, _, _, .cons _ t, q => .cons q t
  | _, _, i + 1, _, _, .cons h t, q => .cons h (Sl.set i t q)
theorem Sl.le : ∀ {xs : List (Option V)} {es fs : List SD}, Sl K c H xs es → SLe es fs → Sl K c H xs fs
  | _, _, _, .nil, .nil => .nil
  | _, _, _, .cons h t, .same l => .cons h (Sl.le t l)
  | _, _, _, .cons _ t, .no l => .cons trivial (Sl.le t l)
theorem Sl.datas : ∀ {vs : List V} {ds : List Da}, DqAll K (hd c.Z H) vs ds → ∀ {xs : List (Option V)} {es : List SD}, Sl K c H xs es → Sl K c H (vs.map some ++ xs) (ds.map SD.dat ++ es)
  | _, _, .nil, _, _, s => s
  | _, _, .cons h t, _, _, s => .cons ⟨_, rfl, h⟩ (Sl.datas t s)
theorem Sl.nos : ∀ (n : Nat), Sl K c H (List.replicate n none) (List.replicate n .no)
  | 0 => .nil
  | n + 1 => .cons trivial (Sl.nos n)
theorem Sl.init {N : List Str} {vs : List V} {ds : List Da} (h : DqAll K (hd c.Z H) vs ds) : Sl K c H (L2.start N vs) (ds.map SD.dat ++ List.replicate (N.length - ds.length) .no) := by
  unfold L2.start
  rw [h.len]
  exact Sl.datas h (Sl.nos _)
theorem Sl.initG {N : List Str} {a : Addr} {vs : List V} {ds : List Da} (ha : a ∈ c.dl) (h : DqAll K (hd c.Z H) vs ds) : Sl K c H (L2.start N (.ref a :: vs)) (.il a :: (ds.map SD.dat ++ List.replicate (N.length - (ds.length + 1)) .no)) := by
  unfold L2.start
  rw [List.map_cons, List.length_cons, h.len]
  exact .cons ⟨rfl, ha⟩ (Sl.datas h (Sl.nos _))
/-- an append to the list at a -/
theorem Sl.app {a : Addr} {vs : List V} {ds : List Da} {v : V} {d : Da} (ok : Ok c H) (haz : a ∈ c.Z) (had : a ∉ c.dl) (hv : H a = some (.lst vs)) (hds : DqAll K (hd c.Z H) vs ds) (h : Dq K (hd c.Z H) v d) :
    ∀ {xs : List (Option V)} {es : List SD}, Sl K c H xs es → NoAl a es → Sl K c (upd H a (.lst (vs ++ [v]))) xs es
  | _, _, .nil, _ => .nil
  | _, _, .cons (e := .no) _ t, n => .cons trivial (Sl.app ok haz had hv hds h t n)
  | _, _, .cons (e := .dat _) ⟨v, q1, q2⟩ t, n => .cons ⟨v, q1, by rw [hd_upd_in haz]; exact q2⟩ (Sl.app ok haz had hv hds h t n)
  | _, _, .cons (e := .ml b _) ⟨q1, q2, q3, ws, q4, q5⟩ t, n => .cons ⟨q1, q2, q3, ws, by rw [upd_ne n.1]; exact q4, by rw [hd_upd_in haz]; exact q5⟩ (Sl.app ok haz had hv hds h t n.2)
  | _, _, .cons (e := .il _) q t, n => .cons q (Sl.app ok haz had hv hds h t n)
end
theorem Ok.app {c : Cn} {H : Hp} {a : Addr} {o : HO} (ok : Ok c H) (haz : a ∈ c.Z) (had : a ∉ c.dl) : Ok c (upd H a o) := by
  refine ⟨fun z hz => ?_, fun d hdl => ⟨(ok.dlz d hdl).1, ?_⟩, by rw [hd_upd_in haz]; exact ok.kn⟩
  · by_cases e : z = a
    · rw [e, upd_same]; exact ⟨_, rfl⟩
    · rw [upd_ne e]; exact ok.live z hz
  · obtain ⟨ns, e⟩ := (ok.dlz d hdl).2
    exact ⟨ns, by rw [upd_ne (fun q => had (by rw [← q]; exact hdl))]; exact e⟩
theorem Rl.app {dl : List Addr} {Hb H : Hp} {a : Addr} {o : HO} (r : Rl dl Hb H) (hb : Hb a = none) (had : a ∉ dl) : Rl dl Hb (upd H a o) := by
  refine ⟨fun b x n e => ?_, fun d m e => ?_⟩
  · rw [upd_ne (ne_of_none e hb)]
    exact r.keep b x n e
  · obtain ⟨ns, q⟩ := r.drw d m e
    exact ⟨ns, by rw [upd_ne (fun z => had (by rw [← z]; exact m))]; exact q⟩
/-- a new hidden thing -/
def Cn.hide (c : Cn) (a : Addr) : Cn := { c with Z := a :: c.Z }
def Cn.draw (c : Cn) (a : Addr) : Cn := { c with Z := a :: c.Z, dl := a :: c.dl }
def Cn.wt (c : Cn) (w : Hp) : Cn := { c with w := w }
theorem hd_hide {Z : List Addr} {H : Hp} {p : Addr} {o : HO} (h : H p = none) : Ex (hd Z H) (hd (p :: Z) (upd H p o)) := fun b x e => by
  have nb : b ≠ p := fun q => by
    have := hd_ex Z H b x e
    rw [q, h] at this
    cases this
  unfold hd at e ⊢
  split at e
  · cases e
  · rename_i n
    rw [if_neg (fun q => by rcases List.mem_cons.mp q with z | z; exact nb z; exact n z), upd_ne nb]
    exact e
theorem hide_stp {K : PySem.W.Frag} {c : Cn} {H : Hp} {p : Addr} {o : HO} (ok : Ok c H) (h : H p = none) : Stp K c H (c.hide p) (upd H p o) where
  ex := hd_hide h
  sub := fun z hz => List.mem_cons_of_mem _ hz
  dls := fun _ h => h
  mls := fun a ha n => ⟨n, upd_ne fun e => by
    obtain ⟨x, q⟩ := ok.live a ha
    rw [e, h] at q
    cases q⟩
theorem hide_ok {c : Cn} {H : Hp} {p : Addr} {o : HO} (ok : Ok c H) (h : H p = none) : Ok (c.hide p) (upd H p o) := by
  refine ⟨fun z hz => ?_, fun d hdl => ?_, ok.kn.trans (hd_hide h)⟩
  · rcases List.mem_cons.mp hz with e | e
    · rw [e, upd_same]; exact ⟨_, rfl⟩
    · obtain ⟨x, q⟩ := ok.live z e
      exact ⟨x, by rw [upd_ne (ne_of_none q h)]; exact q⟩
  · obtain ⟨m, ns, e⟩ := ok.dlz d hdl
    exact ⟨List.mem_cons_of_mem _ m, ns, by rw [upd_ne (ne_of_none e h)]; exact e⟩
theorem draw_stp {K : PySem.W.Frag} {c : Cn} {H : Hp} {p : Addr} {o : HO} (ok : Ok c H) (h : H p = none) : Stp K c H (c.draw p) (upd H p o) where
  ex := hd_hide h
  sub := fun z hz => List.mem_cons_of_mem _ hz
  dls := fun z h => List.mem_cons_of_mem _ h
  mls := fun a ha n => by
    obtain ⟨x, q⟩ := ok.live a ha
    have e : a ≠ p := ne_of_none q h
    exact ⟨fun m => by rcases List.mem_cons.mp m with z | z; exact e z; exact n z, upd_ne e⟩
theorem draw_ok {c : Cn} {H : Hp} {p : Addr} {ns : List Int} (ok : Ok c H) (h : H p = none) : Ok (c.draw p) (upd H p (.lst (ns.map V.int))) := by
  refine ⟨fun z hz => ?_, fun d hdl => ?_, ok.kn.trans (hd_hide h)⟩
  · rcases List.mem_cons.mp hz with e | e
    · rw [e, upd_same]; exact ⟨_, rfl⟩
    · obtain ⟨x, q⟩ := ok.live z e
      exact ⟨x, by rw [upd_ne (ne_of_none q h)]; exact q⟩
  · rcases List.mem_cons.mp hdl with e | e
    · rw [e]
      exact ⟨List.mem_cons_self, ns, upd_same⟩
    · obtain ⟨m, ns, q⟩ := ok.dlz d e
      exact ⟨List.mem_cons_of_mem _ m, ns, by rw [upd_ne (ne_of_none q h)]; exact q⟩
end Kw

/-! readings over data: expressions, tests, arguments, statements, loops, comprehensions, calls -/
namespace Kw
open PySem PySem.Spec PyProof.Rows L2 Evl

section
variable (K : PySem.W.Frag)
def Ed (c : Cn) (δ : List SD) (Hb : Hp) (te : TE) (P : Da → Prop) : Prop := ∀ (σ : L2.St) (H : Hp), Rl c.dl Hb H → Ok c H → Sl K c H σ δ → ∀ Q : VK, (∀ v d H2, Rl c.dl H H2 → Ok c H2 → P d → Dq K (hd c.Z H2) v d → Q v H2) → te σ H Q
def Ea (c : Cn) (δ : List SD) (Hb : Hp) (ta : TA) (P : List Da → Prop) : Prop := ∀ (σ : L2.St) (H : Hp), Rl c.dl Hb H → Ok c H → Sl K c H σ δ → ∀ Q : List V → Hp → Prop, (∀ vs ds H2, Rl c.dl H H2 → Ok c H2 → P ds → DqAll K (hd c.Z H2) vs ds → Q vs H2) → ta σ H Q
def Eb (c : Cn) (δ : List SD) (Hb : Hp) (tt : TT) (P : Bool → Prop) : Prop := ∀ (σ : L2.St) (H : Hp), Rl c.dl Hb H → Ok c H → Sl K c H σ δ → ∀ Q : Bool → Hp → Prop, (∀ b H2, Rl c.dl H H2 → Ok c H2 → P b → Q b H2) → tt σ H Q
def Nx (c : Cn) (δ : List SD) (Hb : Hp) (k : L2.St → Hp → Prop) : Prop := ∀ (σ : L2.St) (H : Hp), Rl c.dl Hb H → Ok c H → Sl K c H σ δ → k σ H
def Wk (J : It) (src : List Da) (w : Hp) : Prop := ∀ H3, Ex w H3 → (∀ i, i < src.length → J.go i H3) ∧ J.stop src.length H3 ∧ ∀ i x H4, i < src.length → J.yld i H3 x H4 → H4 = H3 ∧ ∃ d, src[i]? = some d ∧ Dq K w x d
def Ei (c : Cn) (δ : List SD) (Hb : Hp) (wi : TI) (P : List Da → Prop) : Prop := ∀ (σ : L2.St) (H : Hp), Rl c.dl Hb H → Ok c H → Sl K c H σ δ → ∀ R : It → Hp → Prop, (∀ J src w H2, Rl c.dl H H2 → Ok (c.wt w) H2 → Ex c.w w → P src → Wk K J src w → R J H2) → wi σ H R
def OpD (c : Cn) (r : R2) (a b : Da) (P : Da → Prop) : Prop := ∀ v w H, Ok c H → Dq K (hd c.Z H) v a → Dq K (hd c.Z H) w b → ∀ Q : VK, (∀ u d H', Rl c.dl H H' → Ok c H' → P d → Dq K (hd c.Z H') u d → Q u H') → r v w H Q
def CbD (c : Cn) (r : List V → Hp → VK → Prop) (ds : List Da) (P : Da → Prop) : Prop := ∀ vs H, Ok c H → DqAll K (hd c.Z H) vs ds → ∀ Q : VK, (∀ u d H', Rl c.dl H H' → Ok c H' → P d → Dq K (hd c.Z H') u d → Q u H') → r vs H Q
end
section
variable {K : PySem.W.Frag} {c : Cn} {δ : List SD} {Hb : Hp} {te ta tb to : TE} {tas : TA} {tt tu : TT} {P : Da → Prop}
theorem Ed.mono {P' : Da → Prop} (h : Ed K c δ Hb te P) (q : ∀ d, P d → P' d) : Ed K c δ Hb te P' := fun σ H r ok s Q k => h σ H r ok s Q fun v d H2 r2 ok2 p => k v d H2 r2 ok2 (q d p)
theorem ed_var {i : Nat} {d : Da} (h : δ[i]? = some (.dat d)) (p : P d) : Ed K c δ Hb (tVar i) P := fun σ H r ok s Q q => by
  obtain ⟨x, h1, v, rfl, h3⟩ := s.get h
  exact ⟨v, h1, q v d H (Rl.refl _ _) ok p h3⟩
theorem ed_cst {v : V} {d : Da} (h : ∀ H, Dq K H v d) (p : P d) : Ed K c δ Hb (tC v) P := fun σ H r ok s Q q => q v d H (Rl.refl _ _) ok p (h _)
theorem ed_int {i : Int} (p : P (.int i)) : Ed K c δ Hb (tC (.int i)) P := ed_cst (fun _ => .int i) p
theorem ed_str {x : Str} (p : P (.str x)) : Ed K c δ Hb (tC (.str x)) P := ed_cst (fun _ => .str x) p
theorem ed_bl {b : Bool} (p : P (.bl b)) : Ed K c δ Hb (tC (.bl b)) P := ed_cst (fun _ => .bl b) p
theorem ed_non (p : P .non) : Ed K c δ Hb (tC .non) P := ed_cst (fun _ => .non) p
theorem ea_nil {P : List Da → Prop} (p : P []) : Ea K c δ Hb tNil P := fun σ H r ok s Q q => q [] [] H (Rl.refl _ _) ok p .nil
theorem ea_cons {P : List Da → Prop} (h : Ed K c δ Hb te fun d => Ea K c δ Hb tas fun ds => P (d :: ds)) : Ea K c δ Hb (tCons te tas) P := fun σ H r ok s Q q =>
  h σ H r ok s _ fun v d H1 r1 ok1 h1 dv => h1 σ H1 (r.trans r1) ok1 (s.mono r1 ok) _ fun vs ds H2 r2 ok2 p dvs => q (v :: vs) (d :: ds) H2 (r1.trans r2) ok2 p (.cons (dv.to (r2.ex ok1)) dvs)
theorem ed_op {r : R2} (h : Ed K c δ Hb ta fun a => Ed K c δ Hb tb fun b => OpD K c r a b P) : Ed K c δ Hb (tOp r ta tb) P := fun σ H r0 ok s Q q =>
  h σ H r0 ok s _ fun v a H1 r1 ok1 h1 da => h1 σ H1 (r0.trans r1) ok1 (s.mono r1 ok) _ fun w b H2 r2 ok2 hop db => hop v w H2 ok2 (da.to (r2.ex ok1)) db Q fun u d H3 r3 ok3 p du => q u d H3 ((r1.trans r2).trans r3) ok3 p du
theorem ed_cb {r : List V → Hp → VK → Prop} (h : Ea K c δ Hb tas fun ds => CbD K c r ds P) : Ed K c δ Hb (tCB r tas) P := fun σ H r0 ok s Q q =>
  h σ H r0 ok s _ fun vs ds H1 r1 ok1 hop dv => hop vs H1 ok1 dv Q fun u d H3 r3 ok3 p du => q u d H3 (r1.trans r3) ok3 p du
theorem fresh_ok {H : Hp} {p : Addr} {o : HO} (ok : Ok c H) (h : H p = none) : Rl c.dl H (upd H p o) ∧ Ok c (upd H p o) ∧ (hd c.Z (upd H p o)) p = some o ∧ Ex (hd c.Z H) (hd c.Z (upd H p o)) :=
  ⟨.new h, ok.mono (.new h), hd_in (ok.fresh h) upd_same, hd_new h⟩
theorem lenLe {n : Nat} (h : n ≤ 100000) : n ≤ sizeLine := Nat.le_trans h (by decide)
theorem ed_tup (h : Ea K c δ Hb tas fun ds => ds.length ≤ 100000 ∧ P (.tup ds)) : Ed K c δ Hb (tTup tas) P := fun σ H r ok s Q q =>
  h σ H r ok s _ fun vs ds H1 r1 ok1 ⟨hl, p⟩ dvs => ⟨by rw [dvs.len]; exact lenLe hl, fun a ha => by
    obtain ⟨f1, f2, f3, f4⟩ := fresh_ok (o := .tup vs) ok1 ha
    exact q (.ref a) (.tup ds) _ (r1.trans f1) f2 p (.tup (.inl (.inl f3)) (dvs.to f4))⟩
/-! operators -/
def ixD : Da → Da → Option Da
  | .tup ds, .int (.ofNat n) => ds[n]?
  | .lst ds, .int (.ofNat n) => ds[n]?
  | _, _ => none
theorem od_ix {a b : Da} (h : ∃ d, ixD a b = some d ∧ P d) : OpD K c (rIx K) a b P := by
  intro v w H ok da db Q q
  obtain ⟨d, h, p⟩ := h
  cases b <;> try (unfold ixD at h; cases a <;> cases h)
  rename_i i
  cases db
  cases i with
  | negSucc n => unfold ixD at h; cases a <;> cases h
  | ofNat n =>
    cases a <;> try (unfold ixD at h; cases h)
    · rename_i ds
      cases da with
      | lst hs ha =>
        obtain ⟨x, hx, dx⟩ := ha.get (show ds[n]? = some d from h)
        exact .inl ⟨_, _, (n : Int), x, rfl, rfl, ex_l (hd_ex _ _) hs, atI_nat hx, q x d H (Rl.refl _ _) ok p dx⟩
    · rename_i ds
      cases da with
      | tup hs ha =>
        obtain ⟨x, hx, dx⟩ := ha.get (show ds[n]? = some d from h)
        exact .inr (.inl ⟨_, _, (n : Int), x, rfl, rfl, ex_t (hd_ex _ _) hs, atI_nat hx, q x d H (Rl.refl _ _) ok p dx⟩)
theorem od_ixS {s : Str} {n : Nat} {k : Nat} (hl : s.length ≤ 100000) (hk : s.cps.toList[n]? = some k) (p : P (.str ⟨#[k]⟩)) : OpD K c rIxS (.str s) (.int (n : Int)) P := by
  intro v w H ok da db Q q
  cases da
  cases db
  exact ⟨s, (n : Int), k, rfl, rfl, lenLe hl, atI_nat hk, q _ _ H (Rl.refl _ _) ok p (.str _)⟩
theorem od_I0 {g : Int → Int → V} {gd : Int → Int → Da} (hg : ∀ i j H, Dq K H (g i j) (gd i j)) {a b : Da} (h : ∃ i j, a = .int i ∧ b = .int j ∧ P (gd i j)) : OpD K c (rI0 g) a b P := by
  intro v w H ok da db Q q
  obtain ⟨i, j, rfl, rfl, p⟩ := h
  cases da
  cases db
  exact ⟨i, j, rfl, rfl, q _ _ H (Rl.refl _ _) ok p (hg i j _)⟩
theorem od_I {C : Int → Int → Prop} {g : Int → Int → V} {gd : Int → Int → Da} (hg : ∀ i j H, Dq K H (g i j) (gd i j)) {a b : Da} (h : ∃ i j, a = .int i ∧ b = .int j ∧ C i j ∧ P (gd i j)) : OpD K c (rI C g) a b P := by
  intro v w H ok da db Q q
  obtain ⟨i, j, rfl, rfl, hc, p⟩ := h
  cases da
  cases db
  exact ⟨i, j, rfl, rfl, hc, q _ _ H (Rl.refl _ _) ok p (hg i j _)⟩
theorem od_add {a b : Da} (h : ∃ i j, a = .int i ∧ b = .int j ∧ P (.int (i + j))) : OpD K c (rI0 fun i j => .int (i + j)) a b P := od_I0 (gd := fun i j => .int (i + j)) (fun _ _ _ => .int _) h
theorem od_sub {a b : Da} (h : ∃ i j, a = .int i ∧ b = .int j ∧ P (.int (i - j))) : OpD K c (rI0 fun i j => .int (i - j)) a b P := od_I0 (gd := fun i j => .int (i - j)) (fun _ _ _ => .int _) h
theorem od_lt {a b : Da} (h : ∃ i j, a = .int i ∧ b = .int j ∧ P (.bl (decide (i < j)))) : OpD K c (rI0 fun i j => .bl (decide (i < j))) a b P := od_I0 (gd := fun i j => .bl (decide (i < j))) (fun _ _ _ => .bl _) h
theorem od_gt {a b : Da} (h : ∃ i j, a = .int i ∧ b = .int j ∧ P (.bl (decide (j < i)))) : OpD K c (rI0 fun i j => .bl (decide (j < i))) a b P := od_I0 (gd := fun i j => .bl (decide (j < i))) (fun _ _ _ => .bl _) h
theorem od_ge {a b : Da} (h : ∃ i j, a = .int i ∧ b = .int j ∧ P (.bl (decide (j ≤ i)))) : OpD K c (rI0 fun i j => .bl (decide (j ≤ i))) a b P := od_I0 (gd := fun i j => .bl (decide (j ≤ i))) (fun _ _ _ => .bl _) h
theorem od_mul {a b : Da} (h : ∃ i j, a = .int i ∧ b = .int j ∧ CMul i j ∧ P (.int (i * j))) : OpD K c (rI CMul fun i j => .int (i * j)) a b P := od_I (gd := fun i j => .int (i * j)) (fun _ _ _ => .int _) h
theorem od_fdiv {C : Int → Int → Prop} {a b : Da} (h : ∃ i j, a = .int i ∧ b = .int j ∧ C i j ∧ P (.int (i / j))) : OpD K c (rI C fun i j => .int (i / j)) a b P := od_I (gd := fun i j => .int (i / j)) (fun _ _ _ => .int _) h
theorem od_mod {C : Int → Int → Prop} {a b : Da} (h : ∃ i j, a = .int i ∧ b = .int j ∧ C i j ∧ P (.int (i % j))) : OpD K c (rI C fun i j => .int (i % j)) a b P := od_I (gd := fun i j => .int (i % j)) (fun _ _ _ => .int _) h
theorem od_pow {a b : Da} (h : ∃ i j, a = .int i ∧ b = .int j ∧ CPow i j ∧ P (.int (i ^ j.toNat))) : OpD K c (rI CPow fun i j => .int (i ^ j.toNat)) a b P := od_I (gd := fun i j => .int (i ^ j.toNat)) (fun _ _ _ => .int _) h
theorem od_addS {a b : Da} (h : ∃ x y, a = .str x ∧ b = .str y ∧ x.length + y.length ≤ 100000 ∧ P (.str (x ++ y))) : OpD K c (fun x y H Q => ∃ i j, x = .str i ∧ y = .str j ∧ i.length + j.length ≤ sizeLine ∧ Q (.str (i ++ j)) H) a b P := by
  intro v w H ok da db Q q
  obtain ⟨x, y, rfl, rfl, hl, p⟩ := h
  cases da
  cases db
  exact ⟨x, y, rfl, rfl, lenLe hl, q _ _ H (Rl.refl _ _) ok p (.str _)⟩
/-- == of scalars -/
def eqS : Da → Da → Option Bool
  | .int i, .int j => some (decide (i = j))
  | .str x, .str y => some (decide (x = y))
  | .bl a, .bl b => some (decide (a = b))
  | _, _ => none
theorem od_eq {a b : Da} (h : ∃ r, eqS a b = some r ∧ P (.bl r)) : OpD K c rEq a b P := by
  intro v w H ok da db Q q
  obtain ⟨r, h, p⟩ := h
  cases a <;> cases b <;> first | (unfold eqS at h; cases h; done) | (
    cases da
    cases db
    unfold eqS at h
    cases h
    refine ⟨rfl, ?_⟩
    refine q _ (.bl _) H (Rl.refl _ _) ok p ?_
    simp only [V.int.injEq, V.str.injEq, V.bl.injEq]
    exact .bl _)
theorem od_ne {a b : Da} (h : ∃ r, eqS a b = some r ∧ P (.bl (!r))) : OpD K c rNe a b P := by
  intro v w H ok da db Q q
  obtain ⟨r, h, p⟩ := h
  cases a <;> cases b <;> first | (unfold eqS at h; cases h; done) | (
    cases da
    cases db
    unfold eqS at h
    cases h
    refine ⟨rfl, ?_⟩
    refine q _ (.bl _) H (Rl.refl _ _) ok p ?_
    simp only [V.int.injEq, V.str.injEq, V.bl.injEq]
    exact .bl _)
def isNonD : Da → Bool
  | .non => true
  | _ => false
theorem Dq.nonD {H : Hp} {v : V} {d : Da} (h : Dq K H v d) : decide (v = .non) = isNonD d := by
  cases h <;> rfl
theorem od_isN {a b : Da} (h : b = .non ∧ P (.bl (isNonD a))) : OpD K c (fun x y H Q => y = .non ∧ Q (.bl (decide (x = .non))) H) a b P := by
  intro v w H ok da db Q q
  obtain ⟨rfl, p⟩ := h
  cases db
  exact ⟨rfl, q _ _ H (Rl.refl _ _) ok p (by rw [da.nonD]; exact .bl _)⟩
theorem od_notN {a b : Da} (h : b = .non ∧ P (.bl (!isNonD a))) : OpD K c (fun x y H Q => y = .non ∧ Q (.bl (!decide (x = .non))) H) a b P := by
  intro v w H ok da db Q q
  obtain ⟨rfl, p⟩ := h
  cases db
  exact ⟨rfl, q _ _ H (Rl.refl _ _) ok p (by rw [da.nonD]; exact .bl _)⟩
theorem shapedL {ds : List Da} (h : Da.plAll 40 ds = true) : SeqAt.shaped (.list (Da.pyAll ds)) = true := py_shaped (n := 41) (d := .lst ds) h (by decide)
theorem od_inDT {neg : Bool} {a b : Da} (h : ∃ ds, (b = .lst ds ∨ b = .tup ds) ∧ Da.pl 40 a = true ∧ Da.plAll 40 ds = true ∧ P (.bl (if neg then !((Da.pyAll ds).any fun z => PyData.eqv z a.py) else (Da.pyAll ds).any fun z => PyData.eqv z a.py))) : OpD K c (rInDT K neg) a b P := by
  intro v w H ok da db Q q
  obtain ⟨ds, hb, h1, h2, p⟩ := h
  have e1 : Dp K H v a.py := Dq.dp 40 a v h1 (da.to (hd_ex _ _))
  have db' := db.to (hd_ex _ _)
  refine ⟨a.py, Da.pyAll ds, e1, ?_, py_shaped h1 (by decide), shapedL h2, q _ _ H (Rl.refl _ _) ok p (.bl _)⟩
  rcases hb with rfl | rfl
  · exact .inl (Dq.dp 41 (.lst ds) w h2 db')
  · exact .inr (Dq.dp 41 (.tup ds) w h2 db')
theorem od_eqD {a b : Da} (h : Da.pl 40 a = true ∧ Da.pl 40 b = true ∧ P (.bl (PyData.eqv a.py b.py))) : OpD K c (rEqD K) a b P := by
  intro v w H ok da db Q q
  obtain ⟨h1, h2, p⟩ := h
  exact ⟨a.py, b.py, Dq.dp 40 a v h1 (da.to (hd_ex _ _)), Dq.dp 40 b w h2 (db.to (hd_ex _ _)), py_shaped h1 (by decide), py_shaped h2 (by decide), q _ _ H (Rl.refl _ _) ok p (.bl _)⟩
/-! values: not, and, if -/
theorem ed_not (h : Ed K c δ Hb te fun d => ∃ b, d = .bl b ∧ P (.bl (!b))) : Ed K c δ Hb (tNotV te) P := fun σ H r ok s Q q =>
  h σ H r ok s _ fun v d H1 r1 ok1 ⟨b, e, p⟩ dv => by
    subst e
    cases dv
    exact ⟨b, rfl, q _ _ H1 r1 ok1 p (.bl _)⟩
theorem ed_and (h : Ed K c δ Hb ta fun d => ∃ b, d = .bl b ∧ (b = true → Ed K c δ Hb tb P) ∧ (b = false → P (.bl false))) : Ed K c δ Hb (tAndV ta tb) P := fun σ H r ok s Q q =>
  h σ H r ok s _ fun v d H1 r1 ok1 ⟨b, e, h1, h2⟩ dv => by
    subst e
    cases dv
    refine ⟨b, rfl, ?_⟩
    cases b with
    | true => exact iteT (h1 rfl σ H1 (r.trans r1) ok1 (s.mono r1 ok) Q fun u e H2 r2 ok2 p du => q u e H2 (r1.trans r2) ok2 p du)
    | false => exact iteF (q _ _ H1 r1 ok1 (h2 rfl) (.bl _))
theorem ed_if (h : Eb K c δ Hb tt fun b => (b = true → Ed K c δ Hb ta P) ∧ (b = false → Ed K c δ Hb tb P)) : Ed K c δ Hb (tIf tt ta tb) P := fun σ H r ok s Q q =>
  h σ H r ok s _ fun b H1 r1 ok1 ⟨h1, h2⟩ => by
    cases b with
    | true => exact iteT (h1 rfl σ H1 (r.trans r1) ok1 (s.mono r1 ok) Q fun u e H2 r2 ok2 p du => q u e H2 (r1.trans r2) ok2 p du)
    | false => exact iteF (h2 rfl σ H1 (r.trans r1) ok1 (s.mono r1 ok) Q fun u e H2 r2 ok2 p du => q u e H2 (r1.trans r2) ok2 p du)
/-! tests -/
theorem eb_yes {P : Bool → Prop} (p : P true) : Eb K c δ Hb tYes P := fun σ H r ok s Q q => q true H (Rl.refl _ _) ok p
theorem eb_test {P : Bool → Prop} (h : Ed K c δ Hb te fun d => ∃ b, d = .bl b ∧ P b) : Eb K c δ Hb (tTest te) P := fun σ H r ok s Q q =>
  h σ H r ok s _ fun v d H1 r1 ok1 ⟨b, e, p⟩ dv => by
    subst e
    cases dv
    exact ⟨b, rfl, q b H1 r1 ok1 p⟩
theorem eb_B {P : Bool → Prop} (h : Ed K c δ Hb te fun d => ∃ b, d = .bl b ∧ P b) : Eb K c δ Hb (tB te) P := eb_test h
theorem eb_not {P : Bool → Prop} (h : Eb K c δ Hb tt fun b => P (!b)) : Eb K c δ Hb (tNot tt) P := fun σ H r ok s Q q =>
  h σ H r ok s _ fun b H1 r1 ok1 p => q (!b) H1 r1 ok1 p
theorem eb_and {P : Bool → Prop} (h : Eb K c δ Hb tt fun b => (b = true → Eb K c δ Hb tu P) ∧ (b = false → P false)) : Eb K c δ Hb (tAnd tt tu) P := fun σ H r ok s Q q =>
  h σ H r ok s _ fun b H1 r1 ok1 ⟨h1, h2⟩ => by
    cases b with
    | true => exact iteT (h1 rfl σ H1 (r.trans r1) ok1 (s.mono r1 ok) Q fun b H2 r2 ok2 p => q b H2 (r1.trans r2) ok2 p)
    | false => exact iteF (q false H1 r1 ok1 (h2 rfl))
theorem eb_or {P : Bool → Prop} (h : Eb K c δ Hb tt fun b => (b = true → P true) ∧ (b = false → Eb K c δ Hb tu P)) : Eb K c δ Hb (tOr tt tu) P := fun σ H r ok s Q q =>
  h σ H r ok s _ fun b H1 r1 ok1 ⟨h1, h2⟩ => by
    cases b with
    | true => exact iteT (q true H1 r1 ok1 (h1 rfl))
    | false => exact iteF (h2 rfl σ H1 (r.trans r1) ok1 (s.mono r1 ok) Q fun b H2 r2 ok2 p => q b H2 (r1.trans r2) ok2 p)
/-! built-in calls -/
theorem cb_len {ds : List Da} (h : ∃ xs, (ds = [.lst xs] ∨ ds = [.tup xs]) ∧ P (.int xs.length)) : CbD K c (fun xs H Q => ∃ p ys, xs = [.ref p] ∧ (SqL K H p ys ∨ SqT K H p ys) ∧ Q (.int ys.length) H) ds P := by
  intro vs H ok dv Q q
  obtain ⟨xs, hx, p⟩ := h
  rcases hx with rfl | rfl
  · cases dv with
    | cons h1 h2 =>
      cases h2
      cases h1 with
      | lst hs ha => exact ⟨_, _, rfl, .inl (ex_l (hd_ex _ _) hs), q _ _ H (Rl.refl _ _) ok p (by rw [ha.len]; exact .int _)⟩
  · cases dv with
    | cons h1 h2 =>
      cases h2
      cases h1 with
      | tup hs ha => exact ⟨_, _, rfl, .inr (ex_t (hd_ex _ _) hs), q _ _ H (Rl.refl _ _) ok p (by rw [ha.len]; exact .int _)⟩
theorem cb_any {ds : List Da} (h : ∃ bs, ds = [.lst (List.map Da.bl bs)] ∧ P (.bl (bs.any id))) : CbD K c (rAny K) ds P := by
  intro vs H ok dv Q q
  obtain ⟨bs, rfl, p⟩ := h
  cases dv with
  | cons h1 h2 =>
    cases h2
    cases h1 with
    | lst hs ha =>
      cases ha.bools bs
      exact ⟨_, bs, rfl, ex_l (hd_ex _ _) hs, q _ _ H (Rl.refl _ _) ok p (.bl _)⟩
theorem cb_all {ds : List Da} (h : ∃ bs, ds = [.lst (List.map Da.bl bs)] ∧ P (.bl (bs.all id))) : CbD K c (rAll K) ds P := by
  intro vs H ok dv Q q
  obtain ⟨bs, rfl, p⟩ := h
  cases dv with
  | cons h1 h2 =>
    cases h2
    cases h1 with
    | lst hs ha =>
      cases ha.bools bs
      exact ⟨_, bs, rfl, ex_l (hd_ex _ _) hs, q _ _ H (Rl.refl _ _) ok p (.bl _)⟩
theorem cb_min2 {ds : List Da} (h : ∃ i j, ds = [.int i, .int j] ∧ P (.int (if j < i then j else i))) : CbD K c (fun xs H Q => ∃ i j, xs = [.int i, .int j] ∧ Q (.int (if j < i then j else i)) H) ds P := by
  intro vs H ok dv Q q
  obtain ⟨i, j, rfl, p⟩ := h
  cases dv with
  | cons h1 h2 =>
    cases h2 with
    | cons h2 h3 =>
      cases h3
      cases h1
      cases h2
      exact ⟨i, j, rfl, q _ _ H (Rl.refl _ _) ok p (.int _)⟩
theorem cb_int1 {ds : List Da} (h : ∃ i, ds = [.int i] ∧ P (.int i)) : CbD K c (fun xs H Q => (∃ i, xs = [.int i] ∧ Q (.int i) H) ∨ ∃ k, xs = [.bl k] ∧ Q (.int (if k then 1 else 0)) H) ds P := by
  intro vs H ok dv Q q
  obtain ⟨i, rfl, p⟩ := h
  cases dv with
  | cons h1 h2 =>
    cases h2
    cases h1
    exact .inl ⟨i, rfl, q _ _ H (Rl.refl _ _) ok p (.int _)⟩
theorem cb_tuple {ds : List Da} (h : ∃ xs, (ds = [.lst xs] ∨ ds = [.tup xs]) ∧ P (.tup xs)) : CbD K c (fun xs H Q => ∃ p ys, xs = [.ref p] ∧ ((SqL K H p ys ∧ ∀ l, H l = none → Q (.ref l) (upd H l (.tup ys))) ∨ (SqT K H p ys ∧ Q (.ref p) H))) ds P := by
  intro vs H ok dv Q q
  obtain ⟨xs, hx, p⟩ := h
  rcases hx with rfl | rfl
  · cases dv with
    | cons h1 h2 =>
      cases h2
      cases h1 with
      | lst hs ha => exact ⟨_, _, rfl, .inl ⟨ex_l (hd_ex _ _) hs, fun l hl => by
          obtain ⟨f1, f2, f3, f4⟩ := fresh_ok (o := .tup _) ok hl
          exact q _ (.tup xs) _ f1 f2 p (.tup (.inl (.inl f3)) (ha.to f4))⟩⟩
  · cases dv with
    | cons h1 h2 =>
      cases h2
      cases h1 with
      | tup hs ha => exact ⟨_, _, rfl, .inr ⟨ex_t (hd_ex _ _) hs, q _ (.tup xs) H (Rl.refl _ _) ok p (.tup hs ha)⟩⟩
theorem cb_tuple_frz {ds : List Da} (h : ∃ ss, ds = [.lst (List.map Da.str ss)] ∧ P (.nam ss)) : CbD K c (fun xs H Q => ∃ p ys, xs = [.ref p] ∧ SqL K H p ys ∧ ∀ l o, o.dict = none → H l = none → Q (.ref l) (upd H l (.frz o (.tup ys)))) ds P := by
  intro vs H ok dv Q q
  obtain ⟨ss, rfl, p⟩ := h
  cases dv with
  | cons h1 h2 =>
    cases h2
    cases h1 with
    | lst hs ha =>
      cases ha.strs ss
      exact ⟨_, _, rfl, ex_l (hd_ex _ _) hs, fun l o hd hl => by
        obtain ⟨f1, f2, f3, f4⟩ := fresh_ok (o := .frz o (.tup (ss.map V.str))) ok hl
        exact q _ (.nam ss) _ f1 f2 p (.nam f3 hd)⟩
theorem cb_range1 {ds : List Da} (h : ∃ n, ds = [.int n] ∧ P (.rng n)) : CbD K c (fun vs H Q => ∃ j, vs = [V.int j] ∧ ∀ p, H p = none → Q (.ref p) (upd H p (.rng 0 j))) ds P := by
  intro vs H ok dv Q q
  obtain ⟨n, rfl, p⟩ := h
  cases dv with
  | cons h1 h2 =>
    cases h2
    cases h1
    exact ⟨n, rfl, fun l hl => by
      obtain ⟨f1, f2, f3, f4⟩ := fresh_ok (o := .rng 0 n) ok hl
      exact q _ (.rng n) _ f1 f2 p (.rng f3)⟩
/-- 0, 1, .. below n -/
def upto (n : Nat) : List Da := (List.range n).map fun (i : Nat) => Da.int (i : Int)
theorem rgV_upto {H : Hp} (n : Nat) : DqAll K H (rgV 0 n) (upto n) := by
  unfold rgV upto
  have e : ((n : Int) - 0).toNat = n := by omega
  rw [e]
  have e2 : (List.range n).map (fun (i : Nat) => V.int (0 + (i : Nat))) = ((List.range n).map fun (i : Nat) => (i : Int)).map V.int := by
    rw [List.map_map]
    apply List.map_congr_left
    intro i _
    simp
  have e3 : (List.range n).map (fun (i : Nat) => Da.int (i : Int)) = ((List.range n).map fun (i : Nat) => (i : Int)).map Da.int := by rw [List.map_map]; rfl
  rw [e2, e3]
  exact DqAll.intAll _
theorem upto_len (n : Nat) : (upto n).length = n := by unfold upto; rw [List.length_map, List.length_range]
theorem upto_get {n i : Nat} {d : Da} (h : (upto n)[i]? = some d) : d = .int (i : Int) ∧ i < n := by
  have hl := (List.getElem?_eq_some_iff.mp h).1
  rw [upto_len] at hl
  unfold upto at h
  rw [List.getElem?_map, List.getElem?_range hl] at h
  exact ⟨(Option.some.inj h).symm, hl⟩
theorem cb_list_rng {ds : List Da} (h : ∃ n : Nat, ds = [.rng (n : Int)] ∧ n ≤ 100000 ∧ P (.lst (upto n))) : CbD K c (fun vs H Q => ∃ p n, vs = [.ref p] ∧ H p = some (.rng 0 n) ∧ RgOk 0 n ∧ ∀ q, H q = none → Q (.ref q) (upd H q (.lst (rgV 0 n)))) ds P := by
  intro vs H ok dv Q q
  obtain ⟨n, rfl, hn, p⟩ := h
  cases dv with
  | cons h1 h2 =>
    cases h2
    cases h1 with
    | rng hp => exact ⟨_, (n : Int), rfl, hd_ex _ _ _ _ hp, RgOk.of_le (by omega) (by omega) (by omega) (by omega), fun l hl => by
        obtain ⟨f1, f2, f3, f4⟩ := fresh_ok (o := .lst (rgV 0 n)) ok hl
        exact q _ (.lst (upto n)) _ f1 f2 p (.lst (.inl (.inl f3)) (rgV_upto n))⟩
/-- list(range(n)) written -/
theorem ed_listRg (h : Ed K c δ Hb te fun d => ∃ n : Nat, d = .int (n : Int) ∧ n ≤ 100000 ∧ P (.lst (upto n))) : Ed K c δ Hb (tLstRg (tRg1 te)) P := fun σ H r ok s Q q =>
  h σ H r ok s _ fun v d H1 r1 ok1 ⟨n, e, hn, p⟩ dv => by
    subst e
    cases dv
    exact ⟨(n : Int), rfl, RgOk.of_le (by omega) (by omega) (by omega) (by omega), fun l hl => by
        obtain ⟨f1, f2, f3, f4⟩ := fresh_ok (o := .lst (rgV 0 n)) ok1 hl
        exact q _ (.lst (upto n)) _ (r1.trans f1) f2 p (.lst (.inl (.inl f3)) (rgV_upto n))⟩
/-- isinstance(x, T), T a built-in class -/
def tyD : Da → Option String
  | .non => none
  | .bl _ => some "bool"
  | .int _ => some "int"
  | .str _ => some "str"
  | .lst _ => some "list"
  | .tup _ => some "tuple"
  | _ => none
theorem Dq.ty {H : Hp} {v : V} {d : Da} {t : String} (h : Dq K H v d) (e : tyD d = some t) : TyX K H v (.type t) := by
  cases h with
  | non => cases e
  | bl b => cases e; exact .base (.bl b)
  | int i => cases e; exact .base (.int i)
  | str x => cases e; exact .base (.str x)
  | nam _ _ => cases e
  | rng _ => cases e
  | lst hs _ =>
    cases e
    rcases hs with (hs | ⟨o, hs⟩) | ⟨o, its, n, hk, hc, _⟩
    · exact .base (.lst hs)
    · exact .base (.frz hs)
    · exact .kList hk hc
  | tup hs _ =>
    cases e
    rcases hs with (hs | ⟨o, hs⟩) | ⟨o, its, n, hk, hc, _⟩
    · exact .base (.tup hs)
    · exact .fTuple hs
    · exact .kTuple hk hc
theorem ed_isi {n : String} (h : Ed K c δ Hb te fun d => ∃ t b, tyD d = some t ∧ kitB t n = some b ∧ P (.bl b)) : Ed K c δ Hb (tCB (rIsi K) (tCons te (tCons (tC (.ty n)) tNil))) P := fun σ H r ok s Q q =>
  h σ H r ok s _ fun v d H1 r1 ok1 ⟨t, b, e1, e2, p⟩ dv => ⟨v, .ty n, .type t, .type n, b, rfl, .ty n, (dv.to (hd_ex _ _)).ty e1, kit_ty e2, q _ _ H1 r1 ok1 p (.bl _)⟩
/-! t.index(x), xs.index(x) -/
theorem ed_tix (h : Ed K c δ Hb to fun a => ∃ ss, a = .nam ss ∧ Ed K c δ Hb te fun b => ∃ (z : Str) (j : Nat), b = .str z ∧ ss[j]? = some z ∧ (∀ m, m < j → ss[m]? ≠ some z) ∧ P (.int (j : Int))) : Ed K c δ Hb (tTix to (tCons te tNil)) P := fun σ H r ok s Q q =>
  h σ H r ok s _ fun v a H1 r1 ok1 ⟨ss, e, h1⟩ dv => by
    subst e
    cases dv with
    | nam hp hdn =>
      refine ⟨_, _, ss, rfl, hd_ex _ _ _ _ hp, hdn, ?_⟩
      refine h1 σ H1 (r.trans r1) ok1 (s.mono r1 ok) _ fun w b H2 r2 ok2 ⟨z, j, e, hj, hno, p⟩ db => ?_
      subst e
      cases db
      exact ⟨z, j, rfl, hd_ex _ _ _ _ (r2.ex ok1 _ _ hp), hj, hno, q _ _ H2 (r1.trans r2) ok2 p (.int _)⟩
theorem flat_strs (ss : List Str) : (ss.map V.str).all flatV = true := by
  rw [List.all_eq_true]
  intro x hx
  obtain ⟨s, _, rfl⟩ := List.mem_map.mp hx
  rfl
theorem ed_lix (h : Ed K c δ Hb to fun a => ∃ ss, a = .lst (List.map Da.str ss) ∧ Ed K c δ Hb te fun b => ∃ (z : Str) (j : Nat), b = .str z ∧ ss[j]? = some z ∧ (∀ m, m < j → ss[m]? ≠ some z) ∧ P (.int (j : Int))) : Ed K c δ Hb (tBM K "list" (rIndex K) to (tCons te tNil)) P := fun σ H r ok s Q q =>
  h σ H r ok s _ fun v a H1 r1 ok1 ⟨ss, e, h1⟩ dv => by
    subst e
    cases dv with
    | lst hs ha =>
      cases ha.strs ss
      refine ⟨.inl ⟨rfl, _, ex_l (hd_ex _ _) hs⟩, ?_⟩
      refine h1 σ H1 (r.trans r1) ok1 (s.mono r1 ok) _ fun w b H2 r2 ok2 ⟨z, j, e, hj, hno, p⟩ db => ?_
      subst e
      cases db
      refine ⟨_, _, .str z, j, .str z, rfl, rfl, ex_l ((r2.ex ok1).trans (hd_ex _ _)) hs, rfl, flat_strs ss, by rw [List.getElem?_map, hj]; rfl, ?_, fun m z' hm hz' => ?_, q _ _ H2 (r1.trans r2) ok2 p (.int _)⟩
      · show (z == z) = true
        exact beq_self_eq_true z
      · rw [List.getElem?_map] at hz'
        cases e : ss[m]? with
        | none => rw [e] at hz'; cases hz'
        | some y =>
          rw [e] at hz'
          cases hz'
          show (y == z) = false
          exact beq_eq_false_iff_ne.mpr fun q => hno m hm (by rw [e, q])
/-! a slice of a list -/
theorem ed_sl {tl th : TO} (h : Ed K c δ Hb te fun a => ∃ (xs : List Da) (k : Nat), a = .lst xs ∧ tl = tNoPart ∧ (∃ tk, th = tPart tk ∧ Ed K c δ Hb tk fun b => b = .int (k : Int) ∧ k ≤ xs.length ∧ P (.lst (xs.take k)))) : Ed K c δ Hb (tSl (rSlL K) te tl th) P := fun σ H r ok s Q q =>
  h σ H r ok s _ fun v a H1 r1 ok1 ⟨xs, k, e, e1, tk, e2, h1⟩ dv => by
    subst e e1 e2
    cases dv with
    | @lst a vs ds hs ha =>
      refine h1 σ H1 (r.trans r1) ok1 (s.mono r1 ok) _ fun w b H2 r2 ok2 ⟨e, hk, p⟩ db => ?_
      subst e
      cases db
      refine ⟨(k : Int), rfl, a, vs, rfl, ex_l ((r2.ex ok1).trans (hd_ex _ _)) hs, fun l hl => ?_⟩
      have ec : cutV vs none (some (k : Int)) = vs.take k := by
        unfold cutV
        rw [HT.sIx_nat, HT.sIx_none, List.drop_zero, ha.len]
        congr 1
        omega
      rw [ec]
      obtain ⟨f1, f2, f3, f4⟩ := fresh_ok (o := .lst (vs.take k)) ok2 hl
      exact q _ (.lst (xs.take k)) _ ((r1.trans r2).trans f1) f2 p (.lst (.inl (.inl f3)) ((ha.take k).to ((r2.ex ok1).trans f4)))
end
end Kw

/-! promises, statements, loops, comprehensions -/
namespace Kw
open PySem PySem.Spec PyProof.Rows L2 Evl

/-- a def that changes nothing: for data of which Pre it answers data of which Post -/
def spP {α : Type} (K : PySem.W.Frag) (Pre : α → List Da → Prop) (Post : α → Da → Prop) : Sp := fun vs H Q _ => ∃ p Z ds, (∀ z ∈ Z, ∃ o, H z = some o) ∧ DqAll K (hd Z H) vs ds ∧ Pre p ds ∧ ∀ v d H', Ex H H' → Post p d → Dq K (hd Z H') v d → Q v H'
/-- a def whose first argument is a list of ints that it may change -/
def spG {α : Type} (K : PySem.W.Frag) (Pre : α → List Da → Prop) (Post : α → Da → Prop) : Sp := fun vs H Q _ => ∃ p Z a rest ds, vs = .ref a :: rest ∧ a ∈ Z ∧ (∀ z ∈ Z, ∃ o, H z = some o) ∧ IL H a ∧ DqAll K (hd Z H) rest ds ∧ Pre p ds ∧ ∀ v d H', Rl [a] H H' → Post p d → Dq K (hd Z H') v d → Q v H'
/-- a def that answers a new list of ints -/
def spN (K : PySem.W.Frag) (Pre : List Da → Prop) : Sp := fun vs H Q _ => ∃ Z ds, (∀ z ∈ Z, ∃ o, H z = some o) ∧ DqAll K (hd Z H) vs ds ∧ Pre ds ∧ ∀ a H', Ex H H' → H a = none → IL H' a → Q (.ref a) H'
section
variable {K : PySem.W.Frag} {c : Cn} {δ : List SD} {Hb : Hp} {te ta tb to : TE} {tas : TA} {tt tu : TT} {P : Da → Prop} {D : Ends} {t u : TS}
theorem ed_call {α : Type} {Pre : α → List Da → Prop} {Post : α → Da → Prop} {E : XK} (h : Ea K c δ Hb tas fun ds => ∃ p, Pre p ds ∧ ∀ d, Post p d → P d) : Ed K c δ Hb (tCall (spP K Pre Post) [] E tas) P := fun σ H r ok s Q q =>
  h σ H r ok s _ fun vs ds H1 r1 ok1 ⟨pp, p, hP⟩ dvs => ⟨pp, c.Z, ds, ok1.live, by rw [List.append_nil]; exact dvs, p, fun v d H2 e hd' dv => q v d H2 (r1.trans (.of_ex e)) (ok1.mono (.of_ex e)) (hP d hd') dv⟩
theorem Rl.one {dl : List Addr} {H H' : Hp} {a : Addr} (r : Rl [a] H H') (ha : a ∈ dl) : Rl dl H H' := by
  refine ⟨fun b o n e => r.keep b o (fun m => n (by rw [List.mem_singleton.mp m]; exact ha)) e, fun d m e => ?_⟩
  by_cases q : d = a
  · subst q
    exact r.drw d (List.mem_singleton.mpr rfl) e
  · obtain ⟨ns, z⟩ := e
    exact ⟨ns, r.keep d _ (fun m => q (List.mem_singleton.mp m)) z⟩
theorem ed_callG {α : Type} {Pre : α → List Da → Prop} {Post : α → Da → Prop} {E : XK} {i : Nat} {a : Addr} (hi : δ[i]? = some (.il a)) (h : Ea K c δ Hb tas fun ds => ∃ p, Pre p ds ∧ ∀ d, Post p d → P d) : Ed K c δ Hb (tCall (spG K Pre Post) [] E (tCons (tVar i) tas)) P := fun σ H r ok s Q q => by
  obtain ⟨x, h1, rfl, hm⟩ := s.get hi
  refine ⟨.ref a, h1, ?_⟩
  refine h σ H r ok s _ fun vs ds H1 r1 ok1 ⟨pp, p, hP⟩ dvs => ?_
  exact ⟨pp, c.Z, a, vs, ds, by rw [List.append_nil], (ok1.dlz a hm).1, ok1.live, (ok1.dlz a hm).2, dvs, p, fun v d H2 e hd' dv => q v d H2 (r1.trans (e.one hm)) (ok1.mono (e.one hm)) (hP d hd') dv⟩
/-- tuple(xs), xs the list in slot i, that has been filled -/
theorem ed_tupleM {i : Nat} {a : Addr} {ds : List Da} (hi : δ[i]? = some (.ml a ds)) (p : P (.tup ds)) : Ed K c δ Hb (tCB (fun xs H Q => ∃ p ys, xs = [.ref p] ∧ ((SqL K H p ys ∧ ∀ l, H l = none → Q (.ref l) (upd H l (.tup ys))) ∨ (SqT K H p ys ∧ Q (.ref p) H))) (tCons (tVar i) tNil)) P := fun σ H r ok s Q q => by
  obtain ⟨x, h1, rfl, hz, hn, vs, hv, dv⟩ := s.get hi
  refine ⟨.ref a, h1, a, vs, rfl, .inl ⟨SqL.of hv, fun l hl => ?_⟩⟩
  obtain ⟨f1, f2, f3, f4⟩ := fresh_ok (o := .tup vs) ok hl
  exact q _ (.tup ds) _ f1 f2 p (.tup (.inl (.inl f3)) (dv.to f4))

/-! ### statements -/
/-- what the end of the def wants -/
def RtOk (K : PySem.W.Frag) (c : Cn) (Hb : Hp) (R : Da → Prop) (rt : VK) : Prop := ∀ v d H', Rl c.dl Hb H' → R d → Dq K (hd c.Z H') v d → rt v H'
theorem RtOk.hide {R : Da → Prop} {rt : VK} {a : Addr} (h : RtOk K c Hb R rt) : RtOk K (c.hide a) Hb R rt := fun v d H' r p dv => h v d H' r p (dv.to (hd_sub fun z hz => List.mem_cons_of_mem _ hz))
theorem RtOk.draw {R : Da → Prop} {rt : VK} {a : Addr} (h : RtOk K c Hb R rt) (ha : Hb a = none) : RtOk K (c.draw a) Hb R rt := fun v d H' r p dv => h v d H' (by
  have r' : Rl (a :: c.dl) Hb H' := r
  refine ⟨fun b o n e => r'.keep b o (fun m => ?_) e, fun b m e => r'.drw b (List.mem_cons_of_mem _ m) e⟩
  rcases List.mem_cons.mp m with z | z
  · rw [z, ha] at e
    cases e
  · exact n z) p (dv.to (hd_sub fun z hz => List.mem_cons_of_mem _ hz))
theorem RtOk.wt {R : Da → Prop} {rt : VK} {w : Hp} (h : RtOk K c Hb R rt) : RtOk K (c.wt w) Hb R rt := h
theorem nx_seq (h : Nx K c δ Hb (t { D with nx := u D })) : Nx K c δ Hb (tSeq t u D) := h
theorem nx_next (h : Nx K c δ Hb D.nx) : Nx K c δ Hb (tNext D) := h
theorem nx_le {δ' : List SD} {k : L2.St → Hp → Prop} (l : SLe δ δ') (h : Nx K c δ' Hb k) : Nx K c δ Hb k := fun σ H r ok s => h σ H r ok (s.le l)
theorem nx_asg {i : Nat} (h : Ed K c δ Hb te fun d => Nx K c (δ.set i (.dat d)) Hb D.nx) : Nx K c δ Hb (tAsg te (gName i) D) := fun σ H r ok s =>
  h σ H r ok s _ fun v d H1 r1 ok1 h1 dv => h1 _ H1 (r.trans r1) ok1 ((s.mono r1 ok).set i ⟨v, rfl, dv⟩)
theorem nx_ret {R : Da → Prop} (hr : RtOk K c Hb R D.rt) (h : Ed K c δ Hb te R) : Nx K c δ Hb (tRet te D) := fun σ H r ok s =>
  h σ H r ok s _ fun v d H1 r1 ok1 h1 dv => hr v d H1 (r.trans r1) h1 dv
theorem nx_if (h : Eb K c δ Hb tt fun b => (b = true → Nx K c δ Hb (t D)) ∧ (b = false → Nx K c δ Hb (u D))) : Nx K c δ Hb (tIfS tt t u D) := fun σ H r ok s =>
  h σ H r ok s _ fun b H1 r1 ok1 ⟨h1, h2⟩ => by
    cases b with
    | true => exact iteT (h1 rfl σ H1 (r.trans r1) ok1 (s.mono r1 ok))
    | false => exact iteF (h2 rfl σ H1 (r.trans r1) ok1 (s.mono r1 ok))
/-- a new empty list -/
theorem nx_newml {i : Nat} (h : ∀ a, a ∉ c.Z → Hb a = none → Nx K (c.hide a) (δ.set i (.ml a [])) Hb D.nx) : Nx K c δ Hb (tAsg (tLst tNil) (gName i) D) := fun σ H r ok s =>
  ⟨Nat.zero_le _, fun p hp => h p (ok.fresh hp) (r.back ok hp) _ _ (r.trans (.new hp)) (hide_ok ok hp) ((s.step (hide_stp ok hp)).set i ⟨rfl, List.mem_cons_self, fun m => ok.fresh hp (ok.dlz p m).1, [], upd_same, .nil⟩)⟩
/-- xs.append(e) -/
theorem nx_app {l : Nat} {a : Addr} {ds : List Da} (hi : δ[l]? = some (.ml a ds)) (hb : Hb a = none) (hz : ds.length < 100000) (na : NoAl a (δ.set l .no)) (h : Ed K c δ Hb te fun d => Nx K c (δ.set l (.ml a (ds ++ [d]))) Hb D.nx) :
    Nx K c δ Hb (tDrop (tBM K "list" rAppend (tVar l) (tCons te tNil)) D) := fun σ H r ok s => by
  obtain ⟨x, h1, rfl, hz', hn, vs, hv, dv⟩ := s.get hi
  refine ⟨.ref a, h1, .inl ⟨rfl, vs, SqL.of hv⟩, ?_⟩
  refine h σ H r ok s _ fun v d H1 r1 ok1 h2 dvd => ?_
  have hv1 : H1 a = some (.lst vs) := r1.keep a _ hn hv
  have dv1 : DqAll K (hd c.Z H1) vs ds := dv.to (r1.ex ok)
  refine ⟨a, vs, v, rfl, rfl, hv1, Nat.lt_of_lt_of_le (by rw [dv.len]; exact hz) (by decide : 100000 ≤ sizeLine), ?_⟩
  refine h2 _ _ ((r.trans r1).app hb hn) (ok1.app hz' hn) ?_
  have s1 : Sl K c H1 σ (δ.set l .no) := by
    have z := (s.mono r1 ok).set l (x := some (V.ref a)) (e := .no) trivial
    rw [show σ.set l (some (V.ref a)) = σ from by
      apply List.ext_getElem?
      intro n
      by_cases e : n = l
      · subst e
        have hlt := (List.getElem?_eq_some_iff.mp h1).1
        rw [List.getElem?_set_self hlt, h1]
      · rw [List.getElem?_set_ne (Ne.symm e)]] at z
    exact z
  have s2 := Sl.app ok1 hz' hn hv1 dv1 dvd s1 na
  have s3 := s2.set l (x := some (V.ref a)) (e := .ml a (ds ++ [d])) ⟨rfl, hz', hn, _, upd_same, (dv1.snoc dvd).to (by rw [hd_upd_in hz']; exact Ex.refl _)⟩
  rw [show σ.set l (some (V.ref a)) = σ from by
      apply List.ext_getElem?
      intro n
      by_cases e : n = l
      · subst e
        have hlt := (List.getElem?_eq_some_iff.mp h1).1
        rw [List.getElem?_set_self hlt, h1]
      · rw [List.getElem?_set_ne (Ne.symm e)], List.set_set] at s3
  exact s3
/-- the list itself is handed back -/
theorem nx_retml {R : Da → Prop} {i : Nat} {a : Addr} {ds : List Da} (hi : δ[i]? = some (.ml a ds)) (haz : a ∉ c.Z) (hr : RtOk K c Hb R D.rt) (p : R (.lst ds)) : Nx K (c.hide a) δ Hb (tRet (tVar i) D) := fun σ H r ok s => by
  obtain ⟨x, h1, rfl, hz', hn, vs, hv, dv⟩ := s.get hi
  exact ⟨.ref a, h1, hr _ (.lst ds) H r p (.lst (.inl (.inl (hd_in haz hv))) (dv.to (hd_sub fun z hz => List.mem_cons_of_mem _ hz)))⟩
/-- x = a call that gives a new list of ints -/
theorem nx_asgN {Pre : List Da → Prop} {E : XK} {i : Nat} (h : Ea K c δ Hb tas fun ds => Pre ds ∧ ∀ a, a ∉ c.Z → Hb a = none → Nx K (c.draw a) (δ.set i (.il a)) Hb D.nx) : Nx K c δ Hb (tAsg (tCall (spN K Pre) [] E tas) (gName i) D) := fun σ H r ok s =>
  h σ H r ok s _ fun vs ds H1 r1 ok1 ⟨p, h1⟩ dvs => ⟨c.Z, ds, ok1.live, by rw [List.append_nil]; exact dvs, p, fun a H2 e hn hil => by
    have nz : a ∉ c.Z := ok1.fresh hn
    have rr : Rl c.dl H1 H2 := .of_ex e
    have ok2 : Ok c H2 := ok1.mono rr
    have bn : Hb a = none := (r.trans r1).back ok1 hn
    have x2 : Ex (hd c.Z H1) (hd (a :: c.Z) H2) := fun b o q => by
      have nb : b ≠ a := fun z => by
        have := hd_ex _ _ b o q
        rw [z, hn] at this
        cases this
      unfold hd at q ⊢
      split at q
      · cases q
      · rename_i m
        rw [if_neg (fun z => by rcases List.mem_cons.mp z with y | y; exact nb y; exact m y)]
        exact e b o q
    have ok3 : Ok (c.draw a) H2 := by
      refine ⟨fun z hz => ?_, fun d hdl => ?_, ok1.kn.trans x2⟩
      · rcases List.mem_cons.mp hz with y | y
        · obtain ⟨ns, q⟩ := hil
          exact ⟨_, by rw [y]; exact q⟩
        · exact ok2.live z y
      · rcases List.mem_cons.mp hdl with y | y
        · rw [y]
          exact ⟨List.mem_cons_self, hil⟩
        · exact ⟨List.mem_cons_of_mem _ (ok2.dlz d y).1, (ok2.dlz d y).2⟩
    have st : Stp K c H1 (c.draw a) H2 := ⟨x2, fun z hz => List.mem_cons_of_mem _ hz, fun z hz => List.mem_cons_of_mem _ hz, fun b hb n => by
      obtain ⟨o, q⟩ := ok1.live b hb
      have nb : b ≠ a := ne_of_none q hn
      exact ⟨fun m => by rcases List.mem_cons.mp m with y | y; exact nb y; exact n y, by rw [q, e b o q]⟩⟩
    have rb : Rl (a :: c.dl) Hb H2 := by
      have r0 := (r.trans r1).trans rr
      refine ⟨fun b o n q => r0.keep b o (fun m => n (List.mem_cons_of_mem _ m)) q, fun d m q => ?_⟩
      rcases List.mem_cons.mp m with y | y
      · rw [y]; exact hil
      · exact r0.drw d y q
    exact h1 a nz bn _ H2 rb ok3 (((s.mono r1 ok).step st).set i ⟨rfl, List.mem_cons_self⟩)⟩
/-- x = y[n:], y a list of ints -/
theorem nx_asgSl {i k : Nat} {b : Addr} (hk : δ[k]? = some (.il b)) (h : Ed K c δ Hb te fun d => ∃ n : Int, d = .int n ∧ ∀ a, a ∉ c.Z → Hb a = none → Nx K (c.draw a) (δ.set i (.il a)) Hb D.nx) : Nx K c δ Hb (tAsg (tSl (rSlL K) (tVar k) (tPart te) tNoPart) (gName i) D) := fun σ H r ok s => by
  obtain ⟨x, h1, rfl, hm⟩ := s.get hk
  refine ⟨.ref b, h1, ?_⟩
  refine h σ H r ok s _ fun v d H1 r1 ok1 ⟨n, e, h2⟩ dv => ?_
  subst e
  cases dv
  obtain ⟨ns, hb⟩ := (ok1.dlz b hm).2
  refine ⟨n, rfl, b, ns.map V.int, rfl, SqL.of hb, fun p hp => ?_⟩
  have ec : ∃ ms : List Int, cutV (ns.map V.int) (some n) none = ms.map V.int := by
    unfold cutV
    rw [← List.map_drop, ← List.map_take]
    exact ⟨_, rfl⟩
  obtain ⟨ms, ec⟩ := ec
  rw [ec]
  have bn : Hb p = none := (r.trans r1).back ok1 hp
  have rb : Rl (p :: c.dl) Hb (upd H1 p (.lst (ms.map V.int))) := by
    have r0 : Rl c.dl Hb (upd H1 p (.lst (ms.map V.int))) := (r.trans r1).trans (.new hp)
    refine ⟨fun b o n q => r0.keep b o (fun m => n (List.mem_cons_of_mem _ m)) q, fun d m q => ?_⟩
    rcases List.mem_cons.mp m with y | y
    · rw [y]; exact ⟨ms, upd_same⟩
    · exact r0.drw d y q
  exact h2 p (ok1.fresh hp) bn _ _ rb (draw_ok ok1 hp) (((s.mono r1 ok).step (draw_stp ok1 hp)).set i ⟨rfl, List.mem_cons_self⟩)

/-! ### what a for walks -/
theorem wk_walk {J : It} {src : List Da} {w : Hp} (h : Wk K J src w) : Walk J src.length (fun H => Ex w H) (fun i H x H' => H' = H ∧ ∃ d, src[i]? = some d ∧ Dq K w x d) :=
  ⟨fun i H hi e => (h H e).1 i hi, fun H e => (h H e).2.1, fun i H x H' hi e y => (h H e).2.2 i x H' hi y⟩
theorem Ok.wt_self {H : Hp} (ok : Ok c H) : Ok (c.wt (hd c.Z H)) H := ⟨ok.live, ok.dlz, Ex.refl _⟩
theorem Ok.unwt {H w : Hp} (ok : Ok (c.wt w) H) (e : Ex c.w w) : Ok c H := ⟨ok.live, ok.dlz, e.trans ok.kn⟩
theorem ei_list {P : List Da → Prop} (h : Ed K c δ Hb te fun d => ∃ xs, d = .lst xs ∧ P xs) : Ei K c δ Hb (iList K te) P := fun σ H r ok s R q =>
  h σ H r ok s _ fun v d H1 r1 ok1 ⟨xs, e, p⟩ dv => by
    subst e
    cases dv with
    | @lst a vs _ hs ha =>
      refine ⟨a, rfl, ⟨vs, ex_l (hd_ex _ _) hs⟩, q (Itl K a) xs (hd c.Z H1) H1 r1 ok1.wt_self ok1.kn p fun H3 e3 => ?_⟩
      have hs3 : SqL K H3 a vs := ex_l e3 hs
      refine ⟨fun i hi => ⟨vs, vs[i]'(by rw [ha.len]; exact hi), hs3, by simp⟩, ⟨vs, hs3, by rw [ha.len]; exact Nat.le_refl _⟩, fun i x H4 hi y => ⟨y.1, ?_⟩⟩
      exact ha.get' (y.2 vs hs3)
theorem ei_tup {P : List Da → Prop} (h : Ed K c δ Hb te fun d => ∃ xs, d = .tup xs ∧ P xs) : Ei K c δ Hb (iTup K te) P := fun σ H r ok s R q =>
  h σ H r ok s _ fun v d H1 r1 ok1 ⟨xs, e, p⟩ dv => by
    subst e
    cases dv with
    | @tup a vs _ hs ha =>
      refine ⟨a, rfl, ⟨vs, ex_t (hd_ex _ _) hs⟩, q (Itt K a) xs (hd c.Z H1) H1 r1 ok1.wt_self ok1.kn p fun H3 e3 => ?_⟩
      have hs3 : SqT K H3 a vs := ex_t e3 hs
      refine ⟨fun i hi => ⟨vs, vs[i]'(by rw [ha.len]; exact hi), hs3, by simp⟩, ⟨vs, hs3, by rw [ha.len]; exact Nat.le_refl _⟩, fun i x H4 hi y => ⟨y.1, ?_⟩⟩
      exact ha.get' (y.2 vs hs3)
theorem wk_range {n : Nat} {w : Hp} : Wk K (Itr 0 n) (upto n) w := fun H3 e3 => by
  rw [upto_len]
  refine ⟨fun i hi => hi, Nat.le_refl _, fun i x H4 hi y => ⟨y.1, .int (i : Int), ?_, ?_⟩⟩
  · unfold upto
    rw [List.getElem?_map, List.getElem?_range hi]
    rfl
  · rw [y.2, Int.zero_add]
    exact .int _
theorem ei_rng {P : List Da → Prop} (h : Ed K c δ Hb te fun d => ∃ n : Nat, d = .rng (n : Int) ∧ n ≤ 100000 ∧ P (upto n)) : Ei K c δ Hb (iRngO te) P := fun σ H r ok s R q =>
  h σ H r ok s _ fun v d H1 r1 ok1 ⟨n, e, hn, p⟩ dv => by
    subst e
    cases dv with
    | @rng a _ hs =>
      refine ⟨a, (n : Int), rfl, hd_ex _ _ _ _ hs, ⟨by omega, by omega⟩, ?_⟩
      rw [Int.toNat_natCast]
      exact q _ _ (hd c.Z H1) H1 r1 ok1.wt_self ok1.kn p wk_range
theorem ei_range1 {P : List Da → Prop} (h : Ea K c δ Hb tas fun ds => ∃ n : Nat, ds = [.int (n : Int)] ∧ n ≤ 100000 ∧ P (upto n)) : Ei K c δ Hb (iRng1 tas) P := fun σ H r ok s R q =>
  h σ H r ok s _ fun vs ds H1 r1 ok1 ⟨n, e, hn, p⟩ dv => by
    subst e
    cases dv with
    | cons h1 h2 =>
      cases h2
      cases h1
      refine ⟨(n : Int), rfl, by omega, by omega, ?_⟩
      rw [Int.toNat_natCast]
      exact q _ _ (hd c.Z H1) H1 r1 ok1.wt_self ok1.kn p wk_range
/-- the signs of a text, each a text -/
def signs (s : Str) : List Str := s.cps.toList.map fun k => ⟨#[k]⟩
theorem ei_str {P : List Da → Prop} (h : Ed K c δ Hb te fun d => ∃ s, d = .str s ∧ P ((signs s).map Da.str)) : Ei K c δ Hb (iStr te) P := fun σ H r ok s R q =>
  h σ H r ok s _ fun v d H1 r1 ok1 ⟨z, e, p⟩ dv => by
    subst e
    cases dv
    have hlen : ((signs z).map Da.str).length = z.cps.size := by unfold signs; simp
    refine ⟨z, rfl, q (Its z) _ (hd c.Z H1) H1 r1 ok1.wt_self ok1.kn p fun H3 e3 => ?_⟩
    rw [hlen]
    refine ⟨fun i hi => hi, Nat.le_refl _, fun i x H4 hi y => ⟨y.1, ?_⟩⟩
    obtain ⟨k, hk, rfl⟩ := y.2
    refine ⟨.str ⟨#[k]⟩, ?_, .str _⟩
    unfold signs
    rw [List.map_map, List.getElem?_map, Array.getElem?_toList, hk]
    rfl

/-! ### loops -/
def Tn (K : PySem.W.Frag) (c : Cn) (Hb : Hp) (I : List SD → Prop) : L2.St → Hp → Prop := fun σ H => ∃ δ', I δ' ∧ Rl c.dl Hb H ∧ Ok c H ∧ Sl K c H σ δ'
theorem nx_turn {I : List SD → Prop} {δ' : List SD} (l : SLe δ δ') (h : I δ') : Nx K c δ Hb (Tn K c Hb I) := fun σ H r ok s => ⟨δ', h, r, ok, s.le l⟩
theorem Sl.wt {H w : Hp} {σ : L2.St} (s : Sl K c H σ δ) : Sl K (c.wt w) H σ δ := Sl.step (K := K) (c := c) (c' := c.wt w) (H := H) (H' := H) (Stp.mk (Ex.refl _) (fun _ h => h) (fun _ h => h) (fun _ _ n => ⟨n, rfl⟩)) s
theorem Sl.unwt {H w : Hp} {σ : L2.St} (s : Sl K (c.wt w) H σ δ) : Sl K c H σ δ := Sl.step (K := K) (c := c.wt w) (c' := c) (H := H) (H' := H) (Stp.mk (Ex.refl _) (fun _ h => h) (fun _ h => h) (fun _ _ n => ⟨n, rfl⟩)) s
theorem nx_for {wi : TI} {j : Nat} {tb : TS} (h : Ei K c δ Hb wi fun src => ∃ inv : Nat → List SD → Prop, inv 0 δ ∧
      (∀ i d δi w, Ex c.w w → src[i]? = some d → inv i δi → Nx K (c.wt w) (δi.set j (.dat d)) Hb (tb { D with nx := Tn K (c.wt w) Hb (inv (i + 1)), ct := Tn K (c.wt w) Hb (inv (i + 1)), bk := D.nx })) ∧
      (∀ δn, inv src.length δn → Nx K c δn Hb D.nx)) : Nx K c δ Hb (tFor wi (gName j) tb D) := fun σ H r ok s =>
  h σ H r ok s _ fun J src w H1 r1 ok1 ew ⟨inv, h0, hs, hd⟩ wk => by
    refine for_it (wk_walk wk) (fun i => Tn K (c.wt w) Hb (inv i)) ⟨δ, h0, r.trans r1, ok1, (s.mono r1 ok).wt⟩ (fun i σ H _ p => ?_) (fun i x σ H H' hi p y => ?_) (fun σ H p => ?_)
    · obtain ⟨_, _, _, o, _⟩ := p
      exact o.kn.trans (hd_ex _ _)
    · obtain ⟨rfl, d, hd', dx⟩ := y
      obtain ⟨δi, hi', ri, oi, si⟩ := p
      exact hs i d δi w ew hd' hi' _ H' ri oi (si.set j ⟨x, rfl, dx.to oi.kn⟩)
    · obtain ⟨δn, hn, rn, on, sn⟩ := p
      exact hd δn hn σ H rn (on.unwt ew) sn.unwt
theorem wipe1 (σ : L2.St) (j : Nat) (x : Option V) : (wipe σ [j]).set j x = σ.set j x := by
  show (σ.set j none).set j x = σ.set j x
  rw [List.set_set]
theorem ed_lc {wi : TI} {j : Nat} (h : Ei K c δ Hb wi fun src => ∃ inv : Nat → List Da → Prop, src.length ≤ 50000 ∧ inv 0 [] ∧
      (∀ i d acc a w, Ex c.w w → a ∉ c.Z → Hb a = none → src[i]? = some d → inv i acc → Eb K ((c.hide a).wt w) (δ.set j (.dat d)) Hb tt fun b =>
        (b = true → Ed K ((c.hide a).wt w) (δ.set j (.dat d)) Hb te fun e => inv (i + 1) (acc ++ [e])) ∧ (b = false → inv (i + 1) acc)) ∧
      (∀ acc, inv src.length acc → P (.lst acc))) : Ed K c δ Hb (tLc wi (gName j) tt te [j]) P := fun σ H r ok s Q q =>
  h σ H r ok s _ fun J src w H1 r1 ok1 ew ⟨inv, hl, h0, hs, hd'⟩ wk => fun Dl hD => by
    have okc : Ok c H1 := ok1.unwt ew
    have dz : Dl ∉ c.Z := okc.fresh hD
    have dd : Dl ∉ c.dl := fun m => dz (okc.dlz Dl m).1
    have bn : Hb Dl = none := (r.trans r1).back okc hD
    have exH : ∀ H', Rl c.dl H1 H' → Ex (hd c.Z H1) (hd (Dl :: c.Z) H') := fun H' r' b o e => by
      have nb : b ≠ Dl := fun z => by
        have := hd_ex _ _ b o e
        rw [z, hD] at this
        cases this
      unfold hd at e ⊢
      split at e
      · cases e
      · rename_i m
        rw [if_neg (fun z => by rcases List.mem_cons.mp z with y | y; exact nb y; exact m y)]
        exact r'.keep b o (fun z => m (okc.dlz b z).1) e
    have okH : ∀ H', Rl c.dl H1 H' → (∃ o, H' Dl = some o) → Ok ((c.hide Dl).wt w) H' := fun H' r' hd2 => by
      have o2 := okc.mono r'
      refine ⟨fun z hz => ?_, fun d m => ⟨List.mem_cons_of_mem _ (o2.dlz d m).1, (o2.dlz d m).2⟩, ok1.kn.trans (exH H' r')⟩
      rcases List.mem_cons.mp hz with y | y
      · rw [y]; exact hd2
      · exact o2.live z y
    have slH : ∀ H', Rl c.dl H1 H' → Sl K ((c.hide Dl).wt w) H' σ δ := fun H' r' => Sl.step (K := K) (c := c) (c' := (c.hide Dl).wt w) (H := H1) (H' := H') (Stp.mk (exH H' r') (fun z hz => List.mem_cons_of_mem _ hz) (fun _ m => m) (fun b hb n => ⟨n, by
      obtain ⟨o, e⟩ := okc.live b hb
      rw [e, r'.keep b o n e]⟩)) (s.mono r1 ok)
    refine lc_it (wk_walk wk) (fun i H' => ∃ acc vs, inv i acc ∧ acc.length ≤ i ∧ H' Dl = some (.lst vs) ∧ DqAll K (hd (Dl :: c.Z) H') vs acc ∧ Rl c.dl H1 H') ⟨[], [], h0, Nat.le_refl _, upd_same, .nil, .new hD⟩ (fun i H' _ p => ?_) (fun i x H2 H3 hi p y => ?_) (fun H' p => ?_)
    · obtain ⟨acc, vs, _, _, e, _, r'⟩ := p
      exact ((okH H' r' ⟨_, e⟩).kn).trans (hd_ex _ _)
    · obtain ⟨rfl, d, hsrc, dx⟩ := y
      obtain ⟨acc, vs, hinv, hal, e, dv, r'⟩ := p
      have o3 := okH H3 r' ⟨_, e⟩
      show wipe ((wipe σ [j]).set j (some x)) [j] = wipe σ [j] ∧ _
      rw [wipe1]
      refine ⟨by show (σ.set j (some x)).set j none = σ.set j none; rw [List.set_set], ?_⟩
      have s3 : Sl K ((c.hide Dl).wt w) H3 (σ.set j (some x)) (δ.set j (.dat d)) := (slH H3 r').set j ⟨x, rfl, dx.to o3.kn⟩
      have rb : Rl c.dl Hb H3 := (r.trans r1).trans r'
      refine hs i d acc Dl w ew dz bn hsrc hinv _ H3 rb o3 s3 _ fun b H4 r4 o4 hb => ?_
      cases b with
      | true =>
        refine iteT ?_
        refine hb.1 rfl _ H4 (rb.trans r4) o4 (s3.mono r4 o3) _ fun y e' H5 r5 o5 hinv' dy => ?_
        have e5 : H5 Dl = some (.lst vs) := r5.keep Dl _ dd (r4.keep Dl _ dd e)
        have dv5 : DqAll K (hd (Dl :: c.Z) H5) vs acc := dv.to ((r4.ex o3).trans (r5.ex o4))
        have hlt : i < src.length := hi
        refine ⟨vs, e5, Nat.lt_of_lt_of_le (show vs.length < 100000 by rw [dv.len]; omega) (by decide), acc ++ [e'], vs ++ [y], hinv', by rw [List.length_append, List.length_singleton]; omega, upd_same, ?_, ?_⟩
        · rw [hd_upd_in List.mem_cons_self]
          exact dv5.snoc dy
        · exact ((r'.trans r4).trans r5).app hD dd
      | false =>
        refine iteF ?_
        exact ⟨acc, vs, hb.2 rfl, by omega, r4.keep Dl _ dd e, dv.to (r4.ex o3), r'.trans r4⟩
    · obtain ⟨acc, vs, hinv, hal, e, dv, r'⟩ := p
      have o2 := okc.mono r'
      exact q _ (.lst acc) H' (r1.trans r') o2 (hd' acc hinv) (.lst (.inl (.inl (hd_in dz e))) (dv.to (hd_sub fun z hz => List.mem_cons_of_mem _ hz)))

/-! ### defs -/
section
variable {PR : Program} {w : World} {mg : Str → Option Value} {base : Heap}
/-- a def that can be called: by its name it answers as promised, with k levels of room -/
def Cl (PR : Program) (w : World) (K : PySem.W.Frag) (mg : Str → Option Value) (base : Heap) (k : Nat) (nm : Str) (ps : List Str) (sp : Sp) : Prop :=
  ∃ (f : Addr) (fd : FuncData), FnOk PR w K mg base CX0 k f fd ps sp ∧ mg nm = some (.ref f) ∧ PySem.W.keepIn K (.ref f) = true ∧ Binds K fd ps []
/-- the def stands behind the top -/
def Df (K : PySem.W.Frag) (mg : Str → Option Value) (nm : Str) (st : Stmt) : Prop := ∃ (f : Addr) (fd : FuncData), Fun K nm nm st f fd ∧ mg nm = some (.ref f)
theorem okP {α : Type} {x : Str} {st : Stmt} {N ps : List Str} {k : Nat} {Pre : α → List Da → Prop} {Post : α → Da → Prop} (F : Df K mg x st) (S : FnScope N ps (defScope st)) (hl : ∀ p ds, Pre p ds → ds.length = ps.length)
    (hb : ∀ (kV doc pm : Value) (an : Option Addr) (cdv ct : Value) (us : List Value), us.length = ps.length → bindArgs (PySem.W.fnOf x x (defArgs st) (defBody st) (defScope st) .none kV doc pm an cdv ct) ⟨us, []⟩ = pure (ps.zip us))
    (h : ∀ (f : Addr) (cdv : Value) (A : Around) (outer : List Env) (s : Shared) (H : Hp) (E : XK), Room k (A.deeper (envOfC x (defScope st) s.heap.objs.size f cdv)) →
      ∃ t, PSs (cxOf CX0 PR w K mg base N x (defScope st) f cdv A outer s H E).nox (defBody st) t ∧
        ∀ (p : α) (ds : List Da) (Z : List Addr) (wh : Hp) (Q : VK), Pre p ds → RtOk K ⟨Z, [], wh⟩ H (Post p) Q → Nx K ⟨Z, [], wh⟩ (ds.map SD.dat ++ List.replicate (N.length - ds.length) .no) H (t { nx := fun _ H' => Q .non H', rt := Q })) :
    Cl PR w K mg base (k + 1) x ps (spP K Pre Post) := by
  obtain ⟨f, fd, F, m⟩ := F
  refine ⟨f, fd, ?_, m, F.kp, F.binds hb⟩
  refine F.ok S (fun vs H Q E hh => ?_) (fun cdv A outer s H vs Q E hr hh => ?_)
  · obtain ⟨pp, Z, ds, _, dv, p, _⟩ := hh
    rw [dv.len, hl pp ds p]
  · obtain ⟨pp, Z, ds, lv, dv, p, q⟩ := hh
    obtain ⟨t, ht, hv⟩ := h f cdv A outer s H E hr
    refine ⟨t, ht, hv pp ds Z (fun _ => none) Q p (fun v d H' r hp dq => q v d H' (fun a o e => r.keep a o (by simp) e) hp dq) _ H (Rl.refl _ _) ⟨lv, fun d m => by simp at m, fun a o e => by cases e⟩ (Sl.init dv)⟩
theorem okG {α : Type} {x : Str} {st : Stmt} {N ps : List Str} {k : Nat} {Pre : α → List Da → Prop} {Post : α → Da → Prop} (F : Df K mg x st) (S : FnScope N ps (defScope st)) (hl : ∀ p ds, Pre p ds → ds.length + 1 = ps.length)
    (hb : ∀ (kV doc pm : Value) (an : Option Addr) (cdv ct : Value) (us : List Value), us.length = ps.length → bindArgs (PySem.W.fnOf x x (defArgs st) (defBody st) (defScope st) .none kV doc pm an cdv ct) ⟨us, []⟩ = pure (ps.zip us))
    (h : ∀ (f : Addr) (cdv : Value) (A : Around) (outer : List Env) (s : Shared) (H : Hp) (E : XK), Room k (A.deeper (envOfC x (defScope st) s.heap.objs.size f cdv)) →
      ∃ t, PSs (cxOf CX0 PR w K mg base N x (defScope st) f cdv A outer s H E).nox (defBody st) t ∧
        ∀ (p : α) (ds : List Da) (Z : List Addr) (a : Addr) (wh : Hp) (Q : VK), Pre p ds → RtOk K ⟨Z, [a], wh⟩ H (Post p) Q → Nx K ⟨Z, [a], wh⟩ (.il a :: (ds.map SD.dat ++ List.replicate (N.length - (ds.length + 1)) .no)) H (t { nx := fun _ H' => Q .non H', rt := Q })) :
    Cl PR w K mg base (k + 1) x ps (spG K Pre Post) := by
  obtain ⟨f, fd, F, m⟩ := F
  refine ⟨f, fd, ?_, m, F.kp, F.binds hb⟩
  refine F.ok S (fun vs H Q E hh => ?_) (fun cdv A outer s H vs Q E hr hh => ?_)
  · obtain ⟨pp, Z, a, rest, ds, rfl, _, _, _, dv, p, _⟩ := hh
    rw [List.length_cons, dv.len, hl pp ds p]
  · obtain ⟨pp, Z, a, rest, ds, rfl, az, lv, il, dv, p, q⟩ := hh
    obtain ⟨t, ht, hv⟩ := h f cdv A outer s H E hr
    refine ⟨t, ht, hv pp ds Z a (fun _ => none) Q p (fun v d H' r hp dq => q v d H' r hp dq) _ H (Rl.refl _ _) ⟨lv, fun d m => by rw [List.mem_singleton.mp m]; exact ⟨az, il⟩, fun a o e => by cases e⟩ (Sl.initG (List.mem_singleton.mpr rfl) dv)⟩
end
end
end Kw

/-! the plain law: written trees, trees with numbers, models, and their data -/
namespace Kw
open PySem PySem.Spec PyProof.Rows L2 Evl

abbrev Ro := Nat × Bool
inductive WC where
  | anything | nothing | name (i : Nat) | not (c : WC) | and (c d : WC) | or (c d : WC) | some (r : Ro) (c : WC) | all (r : Ro) (c : WC)
inductive CC where
  | any | name (i : Nat) | not (c : CC) | and (c d : CC) | some (r : Ro) (c : CC)
def core : WC → CC
  | .anything => .any
  | .nothing => .not .any
  | .name i => .name i
  | .not c => .not (core c)
  | .and c d => .and (core c) (core d)
  | .or c d => .not (.and (.not (core c)) (.not (core d)))
  | .some r c => .some r (core c)
  | .all r c => .not (.some r (.not (core c)))
def WC.depth : WC → Nat
  | .anything => 0
  | .nothing => 0
  | .name _ => 0
  | .not c => c.depth + 1
  | .and c d => max c.depth d.depth + 1
  | .or c d => max c.depth d.depth + 1
  | .some _ c => c.depth + 1
  | .all _ c => c.depth + 1
def CC.depth : CC → Nat
  | .any => 0
  | .name _ => 0
  | .not c => c.depth + 1
  | .and c d => max c.depth d.depth + 1
  | .some _ c => c.depth + 1
theorem core_depth : ∀ c : WC, (core c).depth ≤ 3 * c.depth + 1
  | .anything => by simp [core, CC.depth]
  | .nothing => by simp [core, CC.depth]
  | .name _ => by simp [core, CC.depth]
  | .not c => by have := core_depth c; simp only [core, CC.depth, WC.depth]; omega
  | .and c d => by have := core_depth c; have := core_depth d; simp only [core, CC.depth, WC.depth]; omega
  | .or c d => by have := core_depth c; have := core_depth d; simp only [core, CC.depth, WC.depth]; omega
  | .some _ c => by have := core_depth c; simp only [core, CC.depth, WC.depth]; omega
  | .all _ c => by have := core_depth c; simp only [core, CC.depth, WC.depth]; omega
/-- names below the sizes -/
def WC.wf (nc nr : Nat) : WC → Prop
  | .anything => True
  | .nothing => True
  | .name i => i < nc
  | .not c => c.wf nc nr
  | .and c d => c.wf nc nr ∧ d.wf nc nr
  | .or c d => c.wf nc nr ∧ d.wf nc nr
  | .some r c => r.1 < nr ∧ c.wf nc nr
  | .all r c => r.1 < nr ∧ c.wf nc nr
structure Mo where
  things : List (List Nat)
  links : List (Nat × Nat × Nat)
  ones : List Nat
def Mo.n (M : Mo) : Nat := M.things.length
structure Mo.ok (M : Mo) (ni : Nat) : Prop where
  few : M.n ≤ 100
  ones : ∀ a, a < ni → ∃ x, M.ones[a]? = some x ∧ x < M.n
def rel (M : Mo) (r : Ro) (x y : Nat) : Bool := M.links.contains (if r.2 = true then (r.1, y, x) else (r.1, x, y))
theorem rel_flip (M : Mo) (r : Nat) (b : Bool) (x y : Nat) : rel M (r, !b) x y = rel M (r, b) y x := by
  cases b <;> rfl
def sat (M : Mo) : CC → Nat → Bool
  | .any, _ => true
  | .name i, x => (M.things.getD x []).contains i
  | .not c, x => !sat M c x
  | .and c d, x => sat M c x && sat M d x
  | .some r c, x => ((List.range M.n).filter (sat M c)).any fun y => rel M r x y
def mem (M : Mo) (c : CC) : List Nat := (List.range M.n).filter (sat M c)
def satW (M : Mo) : WC → Nat → Bool
  | .anything, _ => true
  | .nothing, _ => false
  | .name i, x => (M.things.getD x []).contains i
  | .not c, x => !satW M c x
  | .and c d, x => satW M c x && satW M d x
  | .or c d, x => satW M c x || satW M d x
  | .some r c, x => (((List.range M.n).filter fun y => rel M r x y).map (satW M c)).any id
  | .all r c, x => (((List.range M.n).filter fun y => rel M r x y).map (satW M c)).all id
theorem any_swap (l : List Nat) (p q : Nat → Bool) : (l.filter p).any q = ((l.filter q).map p).any id := by
  rw [List.any_map]
  induction l with
  | nil => rfl
  | cons a l ih =>
    rw [List.filter_cons, List.filter_cons]
    cases hp : p a <;> cases hq : q a <;> simp [hp, hq, ih]
theorem all_not (l : List Nat) (q p : Nat → Bool) : ((l.filter q).map p).all id = !((l.filter fun y => !p y).any q) := by
  rw [any_swap, List.any_map, List.all_map]
  induction (l.filter q) with
  | nil => rfl
  | cons a l ih =>
    rw [List.all_cons, List.any_cons, ih]
    simp
theorem sat_core (M : Mo) : ∀ (c : WC) (x : Nat), sat M (core c) x = satW M c x
  | .anything, _ => rfl
  | .nothing, _ => rfl
  | .name _, _ => rfl
  | .not c, x => by simp only [core, sat, satW, sat_core M c x]
  | .and c d, x => by simp only [core, sat, satW, sat_core M c x, sat_core M d x]
  | .or c d, x => by
    simp only [core, sat, satW, sat_core M c x, sat_core M d x]
    cases satW M c x <;> cases satW M d x <;> rfl
  | .some r c, x => by
    have e : sat M (core c) = satW M c := funext (sat_core M c)
    simp only [core, sat, satW, e]
    exact any_swap _ _ _
  | .all r c, x => by
    have e : sat M (core c) = satW M c := funext (sat_core M c)
    simp only [core, sat, satW]
    rw [all_not]
    have e2 : (fun y => !sat M (core c) y) = fun y => !satW M c y := funext fun y => by rw [e]
    rw [show (fun x => !sat M (core c) x) = fun y => !satW M c y from e2]
/-- parts -/
inductive Pt where
  | below (c d : CC) | under (r s : Ro) | is (a : Nat) (c : CC) | has (a n b : Nat)
def holds (M : Mo) : Pt → Bool
  | .below c d => (mem M c).all fun x => (mem M d).contains x
  | .under r s => (List.range M.n).all fun x => (List.range M.n).all fun y => !(rel M r x y && !rel M s x y)
  | .is a c => (mem M c).contains (M.ones.getD a 0)
  | .has a n b => rel M (n, false) (M.ones.getD a 0) (M.ones.getD b 0)
def Pt.depth : Pt → Nat
  | .below c d => max c.depth d.depth
  | .is _ c => c.depth
  | _ => 0
/-- questions, statements as written -/
inductive WQ where
  | never | below (c d : WC) | is (a : Nat) (c : WC) | has (a n b : Nat)
inductive WS where
  | equals (c d : WC) | apart (c d : WC) | domain (r : Ro) (c : WC) | range (r : Ro) (c : WC) | under (r s : Ro) | inverse (r s : Nat) | qu (q : WQ)
inductive CQ where
  | never | part (p : Pt)
def coreQ : WQ → CQ
  | .never => .never
  | .below c d => .part (.below (core c) (core d))
  | .is a c => .part (.is a (core c))
  | .has a n b => .part (.has a n b)
def coreS : WS → List CQ
  | .equals c d => [.part (.below (core c) (core d)), .part (.below (core d) (core c))]
  | .apart c d => [.part (.below (.and (core c) (core d)) (.not .any))]
  | .domain r c => [.part (.below (.some r .any) (core c))]
  | .range r c => [.part (.below (.some (r.1, !r.2) .any) (core c))]
  | .under r s => [.part (.under r s)]
  | .inverse r s => [.part (.under (r, false) (s, true)), .part (.under (s, true) (r, false))]
  | .qu q => [coreQ q]
def holdsQ (M : Mo) : CQ → Bool
  | .never => false
  | .part p => holds M p
def trueQ (M : Mo) : WQ → Bool
  | .never => false
  | .below c d => (((List.range M.n).filter (satW M c)).map (satW M d)).all id
  | .is a c => satW M c (M.ones.getD a 0)
  | .has a n b => rel M (n, false) (M.ones.getD a 0) (M.ones.getD b 0)
def trueS (M : Mo) : WS → Bool
  | .equals c d => (List.range M.n).map (satW M c) == (List.range M.n).map (satW M d)
  | .apart c d => ((List.range M.n).map fun x => !(satW M c x && satW M d x)).all id
  | .domain r c => (List.range M.n).all fun x => !(((List.range M.n).map fun y => rel M r x y).any id && !satW M c x)
  | .range r c => (List.range M.n).all fun x => !(((List.range M.n).map fun y => rel M (r.1, !r.2) x y).any id && !satW M c x)
  | .under r s => (List.range M.n).all fun x => (List.range M.n).all fun y => !(rel M r x y && !rel M s x y)
  | .inverse r s => (List.range M.n).all fun x => (List.range M.n).all fun y => !((rel M (r, false) x y && !rel M (s, true) x y) || (rel M (s, true) x y && !rel M (r, false) x y))
  | .qu q => trueQ M q
theorem below_eq (M : Mo) (c d : CC) : holds M (.below c d) = (List.range M.n).all fun x => !(sat M c x && !sat M d x) := by
  unfold holds mem
  rw [Bool.eq_iff_iff]
  simp only [List.all_eq_true, List.mem_filter, List.contains_iff_mem, List.mem_range]
  constructor
  · intro h x hx
    cases e : sat M c x
    · rfl
    · rw [(h x ⟨hx, e⟩).2]; rfl
  · intro h x hx
    refine ⟨hx.1, ?_⟩
    have := h x hx.1
    rw [hx.2] at this
    cases e : sat M d x
    · rw [e] at this; cases this
    · rfl
theorem below_true (M : Mo) (c d : WC) : trueQ M (.below c d) = (List.range M.n).all fun x => !(satW M c x && !satW M d x) := by
  show (((List.range M.n).filter (satW M c)).map (satW M d)).all id = _
  rw [List.all_map, Bool.eq_iff_iff]
  simp only [List.all_eq_true, List.mem_filter, List.mem_range]
  constructor
  · intro h x hx
    cases e : satW M c x
    · rfl
    · have := h x ⟨hx, e⟩
      simp only [Function.comp, id] at this
      rw [this]; rfl
  · intro h x hx
    have := h x hx.1
    rw [hx.2] at this
    simp only [Function.comp, id]
    cases e : satW M d x
    · rw [e] at this; cases this
    · rfl
theorem is_eq (M : Mo) {ni a : Nat} (ok : M.ok ni) (ha : a < ni) (c : CC) : holds M (.is a c) = sat M c (M.ones.getD a 0) := by
  obtain ⟨x, hx, hl⟩ := ok.ones a ha
  have e : M.ones.getD a 0 = x := by rw [List.getD_eq_getElem?_getD, hx]; rfl
  unfold holds mem
  rw [Bool.eq_iff_iff]
  simp only [List.contains_iff_mem, List.mem_filter, List.mem_range]
  rw [e]
  exact ⟨fun h => h.2, fun h => ⟨hl, h⟩⟩
/-- individuals below ni -/
def WQ.ind (ni : Nat) : WQ → Prop
  | .is a _ => a < ni
  | .has a _ b => a < ni ∧ b < ni
  | _ => True
theorem quest (M : Mo) {ni : Nat} (ok : M.ok ni) : ∀ q : WQ, q.ind ni → holdsQ M (coreQ q) = trueQ M q
  | .never, _ => rfl
  | .below c d, _ => by
    show holds M (.below (core c) (core d)) = _
    rw [below_eq, below_true]
    simp only [sat_core]
  | .is a c, h => by
    show holds M (.is a (core c)) = _
    rw [is_eq M ok h, sat_core]
    rfl
  | .has _ _ _, _ => rfl
def WS.ind (ni : Nat) : WS → Prop
  | .qu q => q.ind ni
  | _ => True
theorem all_and (l : List Nat) (p q : Nat → Bool) : (l.all p && l.all q) = l.all fun x => p x && q x := by
  induction l with
  | nil => rfl
  | cons a l ih =>
    rw [List.all_cons, List.all_cons, List.all_cons, ← ih]
    cases p a <;> cases q a <;> simp
theorem stmt (M : Mo) {ni : Nat} (ok : M.ok ni) : ∀ s : WS, s.ind ni → (coreS s).all (holdsQ M) = trueS M s
  | .equals c d, _ => by
    show (holds M (.below (core c) (core d)) && (holds M (.below (core d) (core c)) && true)) = _
    rw [below_eq, below_eq, Bool.and_true, all_and]
    simp only [sat_core]
    show _ = ((List.range M.n).map (satW M c) == (List.range M.n).map (satW M d))
    rw [Bool.eq_iff_iff]
    simp only [List.all_eq_true, List.mem_range, beq_iff_eq]
    constructor
    · intro h
      apply List.map_congr_left
      intro x hx
      have := h x (List.mem_range.mp hx)
      cases e : satW M c x <;> cases e2 : satW M d x <;> simp_all
    · intro h x hx
      have : satW M c x = satW M d x := by
        have h2 := congrArg (fun l => l[x]?) h
        simp only [List.getElem?_map, List.getElem?_range hx, Option.map_some, Option.some.injEq] at h2
        exact h2
      rw [this]
      cases satW M d x <;> rfl
  | .apart c d, _ => by
    show (holds M (.below (.and (core c) (core d)) (.not .any)) && true) = _
    rw [below_eq, Bool.and_true]
    show _ = ((List.range M.n).map fun x => !(satW M c x && satW M d x)).all id
    rw [List.all_map]
    congr 1
    funext x
    simp only [sat, sat_core, Function.comp, id]
    simp
  | .domain r c, _ => by
    show (holds M (.below (.some r .any) (core c)) && true) = _
    rw [below_eq, Bool.and_true]
    unfold trueS
    congr 1
    funext x
    have e : (List.range M.n).filter (sat M .any) = List.range M.n := List.filter_eq_self.mpr fun _ _ => rfl
    simp only [sat, sat_core]
    rw [show (List.range M.n).filter (fun x => true) = List.range M.n from e, List.any_map]
    rfl
  | .range r c, _ => by
    show (holds M (.below (.some (r.1, !r.2) .any) (core c)) && true) = _
    rw [below_eq, Bool.and_true]
    unfold trueS
    congr 1
    funext x
    have e : (List.range M.n).filter (sat M .any) = List.range M.n := List.filter_eq_self.mpr fun _ _ => rfl
    simp only [sat, sat_core]
    rw [show (List.range M.n).filter (fun x => true) = List.range M.n from e, List.any_map]
    rfl
  | .under r s, _ => by
    show (holds M (.under r s) && true) = _
    rw [Bool.and_true]
    rfl
  | .inverse r s, _ => by
    show (holds M (.under (r, false) (s, true)) && (holds M (.under (s, true) (r, false)) && true)) = _
    rw [Bool.and_true]
    unfold holds trueS
    rw [all_and]
    congr 1
    funext x
    rw [all_and]
    congr 1
    funext y
    cases rel M (r, false) x y <;> cases rel M (s, true) x y <;> rfl
  | .qu q, h => by
    show (holdsQ M (coreQ q) && true) = _
    rw [Bool.and_true, quest M ok q h]
    rfl
theorem mem_core (M : Mo) (c : WC) : mem M (core c) = (List.range M.n).filter (satW M c) := by
  unfold mem
  rw [show sat M (core c) = satW M c from funext (sat_core M c)]
end Kw

/-! the text by places, what stands behind the top, the data of the law's values -/
namespace Kw
open PySem PySem.Spec PyProof.Rows L2 Evl

def topS (i : Nat) : Stmt := PySem.Challenge.pw_ontoworks_k54_whole_meaning.main.body.getD i (.Pass ⟨0, 0, 0, 0⟩)
abbrev s_inverse_of : Stmt := topS 1
abbrev n_inverse_of : List Str := ["role"]
theorem sc_inverse_of : FnScope n_inverse_of ["role"] (defScope s_inverse_of) := ⟨rfl, rfl, rfl, by decide +kernel, rfl, by decide +kernel, by decide +kernel⟩
abbrev s_core_role : Stmt := topS 4
abbrev n_core_role : List Str := ["names", "role"]
theorem sc_core_role : FnScope n_core_role ["names", "role"] (defScope s_core_role) := ⟨rfl, rfl, rfl, by decide +kernel, rfl, by decide +kernel, by decide +kernel⟩
abbrev s_core_concept : Stmt := topS 5
abbrev n_core_concept : List Str := ["names", "concept", "kind", "left", "right"]
theorem sc_core_concept : FnScope n_core_concept ["names", "concept"] (defScope s_core_concept) := ⟨rfl, rfl, rfl, by decide +kernel, rfl, by decide +kernel, by decide +kernel⟩
abbrev s_core_question : Stmt := topS 6
abbrev n_core_question : List Str := ["names", "question", "kind", "first"]
theorem sc_core_question : FnScope n_core_question ["names", "question"] (defScope s_core_question) := ⟨rfl, rfl, rfl, by decide +kernel, rfl, by decide +kernel, by decide +kernel⟩
abbrev s_parts : Stmt := topS 7
abbrev n_parts : List Str := ["names", "statement", "kind", "left", "right", "both", "role", "first", "second"]
theorem sc_parts : FnScope n_parts ["names", "statement"] (defScope s_parts) := ⟨rfl, rfl, rfl, by decide +kernel, rfl, by decide +kernel, by decide +kernel⟩
abbrev s_is_related : Stmt := topS 9
abbrev n_is_related : List Str := ["model", "role", "first", "second"]
theorem sc_is_related : FnScope n_is_related ["model", "role", "first", "second"] (defScope s_is_related) := ⟨rfl, rfl, rfl, by decide +kernel, rfl, by decide +kernel, by decide +kernel⟩
abbrev s_members : Stmt := topS 10
abbrev n_members : List Str := ["model", "concept", "things", "kind", "inside", "found", "thing", "other"]
theorem sc_members : FnScope n_members ["model", "concept"] (defScope s_members) := ⟨rfl, rfl, rfl, by decide +kernel, rfl, by decide +kernel, by decide +kernel⟩
abbrev s_part_fault : Stmt := topS 11
abbrev n_part_fault : List Str := ["model", "part", "inside", "thing", "first", "second", "there"]
theorem sc_part_fault : FnScope n_part_fault ["model", "part"] (defScope s_part_fault) := ⟨rfl, rfl, rfl, by decide +kernel, rfl, by decide +kernel, by decide +kernel⟩
abbrev s_axiom_fault : Stmt := topS 12
abbrev n_axiom_fault : List Str := ["model", "axiom", "number", "part", "things"]
theorem sc_axiom_fault : FnScope n_axiom_fault ["model", "axiom"] (defScope s_axiom_fault) := ⟨rfl, rfl, rfl, by decide +kernel, rfl, by decide +kernel, by decide +kernel⟩
abbrev s_breaks : Stmt := topS 13
abbrev n_breaks : List Str := ["model", "ontology", "places", "found", "place", "fault"]
theorem sc_breaks : FnScope n_breaks ["model", "ontology", "places"] (defScope s_breaks) := ⟨rfl, rfl, rfl, by decide +kernel, rfl, by decide +kernel, by decide +kernel⟩
abbrev s_answers : Stmt := topS 14
abbrev n_answers : List Str := ["model", "question"]
theorem sc_answers : FnScope n_answers ["model", "question"] (defScope s_answers) := ⟨rfl, rfl, rfl, by decide +kernel, rfl, by decide +kernel, by decide +kernel⟩
abbrev s__law_cell : Stmt := topS 16
abbrev n__law_cell : List Str := ["_law_script", "_law_k"]
theorem sc__law_cell : FnScope n__law_cell ["_law_script", "_law_k"] (defScope s__law_cell) := ⟨rfl, rfl, rfl, by decide +kernel, rfl, by decide +kernel, by decide +kernel⟩
abbrev s__law_draws : Stmt := topS 17
abbrev n__law_draws : List Str := ["_law_script", "_law_k", "_law_count", "_law_cell_here", "_law_rest", "_law_seed", "_law_found", "_law_at"]
theorem sc__law_draws : FnScope n__law_draws ["_law_script", "_law_k", "_law_count"] (defScope s__law_draws) := ⟨rfl, rfl, rfl, by decide +kernel, rfl, by decide +kernel, by decide +kernel⟩
abbrev s__law_take : Stmt := topS 18
abbrev n__law_take : List Str := ["_law_draws_here", "_law_many"]
theorem sc__law_take : FnScope n__law_take ["_law_draws_here", "_law_many"] (defScope s__law_take) := ⟨rfl, rfl, rfl, by decide +kernel, rfl, by decide +kernel, by decide +kernel⟩
abbrev s__law_frame : Stmt := topS 19
abbrev n__law_frame : List Str := ["_law_draws_here", "_law_left", "_law_k", "_law_right"]
theorem sc__law_frame : FnScope n__law_frame ["_law_draws_here"] (defScope s__law_frame) := ⟨rfl, rfl, rfl, by decide +kernel, rfl, by decide +kernel, by decide +kernel⟩
abbrev s__law_names : Stmt := topS 20
abbrev n__law_names : List Str := ["_law_draws_here", "_law_frame_here", "_law_rows", "_law_marks", "_law_mark"]
theorem sc__law_names : FnScope n__law_names ["_law_draws_here"] (defScope s__law_names) := ⟨rfl, rfl, rfl, by decide +kernel, rfl, by decide +kernel, by decide +kernel⟩
abbrev s__law_role : Stmt := topS 21
abbrev n__law_role : List Str := ["_law_draws_here", "_law_names_here", "_law_sizes_here", "_law_name"]
theorem sc__law_role : FnScope n__law_role ["_law_draws_here", "_law_names_here", "_law_sizes_here"] (defScope s__law_role) := ⟨rfl, rfl, rfl, by decide +kernel, rfl, by decide +kernel, by decide +kernel⟩
abbrev s__law_concept : Stmt := topS 22
abbrev n__law_concept : List Str := ["_law_draws_here", "_law_names_here", "_law_sizes_here", "_law_depth", "_law_kind", "_law_role_here", "_law_word", "_law_left"]
theorem sc__law_concept : FnScope n__law_concept ["_law_draws_here", "_law_names_here", "_law_sizes_here", "_law_depth"] (defScope s__law_concept) := ⟨rfl, rfl, rfl, by decide +kernel, rfl, by decide +kernel, by decide +kernel⟩
abbrev s__law_statement : Stmt := topS 23
abbrev n__law_statement : List Str := ["_law_draws_here", "_law_names_here", "_law_sizes_here", "_law_depth", "_law_kind", "_law_one", "_law_role_here", "_law_word", "_law_left"]
theorem sc__law_statement : FnScope n__law_statement ["_law_draws_here", "_law_names_here", "_law_sizes_here", "_law_depth"] (defScope s__law_statement) := ⟨rfl, rfl, rfl, by decide +kernel, rfl, by decide +kernel, by decide +kernel⟩
abbrev s__law_question : Stmt := topS 24
abbrev n__law_question : List Str := ["_law_draws_here", "_law_names_here", "_law_sizes_here", "_law_depth", "_law_kind", "_law_one", "_law_role_here", "_law_left"]
theorem sc__law_question : FnScope n__law_question ["_law_draws_here", "_law_names_here", "_law_sizes_here", "_law_depth"] (defScope s__law_question) := ⟨rfl, rfl, rfl, by decide +kernel, rfl, by decide +kernel, by decide +kernel⟩
abbrev s__law_sizes : Stmt := topS 25
abbrev n__law_sizes : List Str := ["_law_draws_here", "_law_concepts", "_law_roles"]
theorem sc__law_sizes : FnScope n__law_sizes ["_law_draws_here"] (defScope s__law_sizes) := ⟨rfl, rfl, rfl, by decide +kernel, rfl, by decide +kernel, by decide +kernel⟩
abbrev s__law_same : Stmt := topS 26
abbrev n__law_same : List Str := ["_law_actual", "_law_due", "_law_k"]
theorem sc__law_same : FnScope n__law_same ["_law_actual", "_law_due"] (defScope s__law_same) := ⟨rfl, rfl, rfl, by decide +kernel, rfl, by decide +kernel, by decide +kernel⟩
abbrev s__law_model : Stmt := topS 27
abbrev n__law_model : List Str := ["_law_script", "_law_first", "_law_sizes_here", "_law_most", "_law_draws_here", "_law_many", "_law_things", "_law_links", "_law_thing", "_law_inner", "_law_role_here", "_law_start", "_law_end", "_law_ones", "_law_name", "_law_one"]
theorem sc__law_model : FnScope n__law_model ["_law_script", "_law_first", "_law_sizes_here", "_law_most"] (defScope s__law_model) := ⟨rfl, rfl, rfl, by decide +kernel, rfl, by decide +kernel, by decide +kernel⟩
abbrev s__law_linked : Stmt := topS 28
abbrev n__law_linked : List Str := ["_law_model_here", "_law_names_here", "_law_role_here", "_law_first", "_law_second", "_law_number"]
theorem sc__law_linked : FnScope n__law_linked ["_law_model_here", "_law_names_here", "_law_role_here", "_law_first", "_law_second"] (defScope s__law_linked) := ⟨rfl, rfl, rfl, by decide +kernel, rfl, by decide +kernel, by decide +kernel⟩
abbrev s__law_belongs : Stmt := topS 29
abbrev n__law_belongs : List Str := ["_law_model_here", "_law_names_here", "_law_concept_here", "_law_many", "_law_kind", "_law_left", "_law_right", "_law_inner", "_law_rows", "_law_thing", "_law_behind", "_law_row", "_law_other"]
theorem sc__law_belongs : FnScope n__law_belongs ["_law_model_here", "_law_names_here", "_law_concept_here"] (defScope s__law_belongs) := ⟨rfl, rfl, rfl, by decide +kernel, rfl, by decide +kernel, by decide +kernel⟩
abbrev s__law_true : Stmt := topS 30
abbrev n__law_true : List Str := ["_law_model_here", "_law_names_here", "_law_tree", "_law_kind", "_law_things", "_law_left", "_law_right", "_law_inside", "_law_role_here", "_law_thing", "_law_first", "_law_second", "_law_other"]
theorem sc__law_true : FnScope n__law_true ["_law_model_here", "_law_names_here", "_law_tree"] (defScope s__law_true) := ⟨rfl, rfl, rfl, by decide +kernel, rfl, by decide +kernel, by decide +kernel⟩
abbrev s__law_told_names : Stmt := topS 31
abbrev n__law_told_names : List Str := ["_law_names_here", "_law_sizes_here"]
theorem sc__law_told_names : FnScope n__law_told_names ["_law_names_here", "_law_sizes_here"] (defScope s__law_told_names) := ⟨rfl, rfl, rfl, by decide +kernel, rfl, by decide +kernel, by decide +kernel⟩
abbrev s_law : Stmt := topS 32
abbrev n_law : List Str := ["_law_script", "_law_draws_here", "_law_names_here", "_law_sizes_here", "_law_told", "_law_model_here", "_law_concept_here", "_law_inside", "_law_due", "_law_tree", "_law_actual", "_law_asked", "_law_thing"]
theorem sc_law : FnScope n_law ["_law_script"] (defScope s_law) := ⟨rfl, rfl, rfl, by decide +kernel, rfl, by decide +kernel, by decide +kernel⟩
/-- what the top has left -/
structure Txt (K : PySem.W.Frag) (mg : Str → Option Value) (aA : Addr) : Prop where
  mlen : mg "len" = none
  many : mg "any" = none
  mall : mg "all" = none
  mmin : mg "min" = none
  misi : mg "isinstance" = none
  mtuple : mg "tuple" = none
  mlist : mg "list" = none
  mint : mg "int" = none
  mrange : mg "range" = none
  menum : mg "enumerate" = none
  mbool : mg "bool" = none
  mstr : mg "str" = none
  mANY : mg "ANY" = some (.ref aA)
  dANY : ∀ H, Dq K H (.ref aA) (.tup [.str "any"])
  d_inverse_of : Df K mg "inverse_of" s_inverse_of
  d_core_role : Df K mg "core_role" s_core_role
  d_core_concept : Df K mg "core_concept" s_core_concept
  d_core_question : Df K mg "core_question" s_core_question
  d_parts : Df K mg "parts" s_parts
  d_is_related : Df K mg "is_related" s_is_related
  d_members : Df K mg "members" s_members
  d_part_fault : Df K mg "part_fault" s_part_fault
  d_axiom_fault : Df K mg "axiom_fault" s_axiom_fault
  d_breaks : Df K mg "breaks" s_breaks
  d_answers : Df K mg "answers" s_answers
  d__law_cell : Df K mg "_law_cell" s__law_cell
  d__law_draws : Df K mg "_law_draws" s__law_draws
  d__law_take : Df K mg "_law_take" s__law_take
  d__law_frame : Df K mg "_law_frame" s__law_frame
  d__law_names : Df K mg "_law_names" s__law_names
  d__law_role : Df K mg "_law_role" s__law_role
  d__law_concept : Df K mg "_law_concept" s__law_concept
  d__law_statement : Df K mg "_law_statement" s__law_statement
  d__law_question : Df K mg "_law_question" s__law_question
  d__law_sizes : Df K mg "_law_sizes" s__law_sizes
  d__law_same : Df K mg "_law_same" s__law_same
  d__law_model : Df K mg "_law_model" s__law_model
  d__law_linked : Df K mg "_law_linked" s__law_linked
  d__law_belongs : Df K mg "_law_belongs" s__law_belongs
  d__law_true : Df K mg "_law_true" s__law_true
  d__law_told_names : Df K mg "_law_told_names" s__law_told_names
  d_law : Df K mg "law" s_law

/-! ### data -/
def nmAt (l : List Str) (i : Nat) : Str := l.getD i ⟨#[]⟩
structure Nm where
  cs : List Str
  rs : List Str
  is : List Str
  xs : List Str
/-- the names and how many of them are told -/
structure Gp where
  N : Nm
  nc : Nat
  nr : Nat
  ni : Nat
structure Gp.ok (g : Gp) : Prop where
  cs : g.N.cs.Nodup
  rs : g.N.rs.Nodup
  is : g.N.is.Nodup
  lc : g.nc ≤ g.N.cs.length
  lr : g.nr ≤ g.N.rs.length
  li : g.ni ≤ g.N.is.length
  pc : 0 < g.nc
def told (g : Gp) : Da := .tup [.nam (g.N.cs.take g.nc), .nam (g.N.rs.take g.nr), .nam (g.N.is.take g.ni)]
def names (N : Nm) : Da := .lst [.lst (N.cs.map .str), .lst (N.rs.map .str), .lst (N.is.map .str), .lst (N.xs.map .str)]
def sizes (g : Gp) : Da := .tup [.int (g.nc : Int), .int (g.nr : Int), .int (g.ni : Int)]
def dRw (N : Nm) (r : Ro) : Da := .tup [.str (nmAt N.rs r.1), .bl r.2]
def dRc (r : Ro) : Da := .tup [.int (r.1 : Int), .bl r.2]
def dW (N : Nm) : WC → Da
  | .anything => .tup [.str "anything"]
  | .nothing => .tup [.str "nothing"]
  | .name i => .tup [.str "name", .str (nmAt N.cs i)]
  | .not c => .tup [.str "not", dW N c]
  | .and c d => .tup [.str "and", dW N c, dW N d]
  | .or c d => .tup [.str "or", dW N c, dW N d]
  | .some r c => .tup [.str "some", dRw N r, dW N c]
  | .all r c => .tup [.str "all", dRw N r, dW N c]
def dC : CC → Da
  | .any => .tup [.str "any"]
  | .name i => .tup [.str "name", .int (i : Int)]
  | .not c => .tup [.str "not", dC c]
  | .and c d => .tup [.str "and", dC c, dC d]
  | .some r c => .tup [.str "some", dRc r, dC c]
def dN (n : Nat) : Da := .int (n : Int)
def dL (l : Nat × Nat × Nat) : Da := .tup [.int (l.1 : Int), .int (l.2.1 : Int), .int (l.2.2 : Int)]
def dM (M : Mo) : Da := .tup [.tup (M.things.map fun t => .tup (t.map dN)), .tup (M.links.map dL), .tup (M.ones.map dN)]
def dPt : Pt → Da
  | .below c d => .tup [.str "below", dC c, dC d]
  | .under r s => .tup [.str "under", dRc r, dRc s]
  | .is a c => .tup [.str "is", .int (a : Int), dC c]
  | .has a n b => .tup [.str "has", .int (a : Int), .int (n : Int), .int (b : Int)]
def dCQ : CQ → Da
  | .never => .tup [.str "never"]
  | .part p => dPt p
def dQ (N : Nm) : WQ → Da
  | .never => .tup [.str "never"]
  | .below c d => .tup [.str "below", dW N c, dW N d]
  | .is a c => .tup [.str "is", .str (nmAt N.is a), dW N c]
  | .has a n b => .tup [.str "has", .str (nmAt N.is a), .str (nmAt N.rs n), .str (nmAt N.is b)]
def dS (N : Nm) : WS → Da
  | .equals c d => .tup [.str "equals", dW N c, dW N d]
  | .apart c d => .tup [.str "apart", dW N c, dW N d]
  | .domain r c => .tup [.str "domain", dRw N r, dW N c]
  | .range r c => .tup [.str "range", dRw N r, dW N c]
  | .under r s => .tup [.str "under", dRw N r, dRw N s]
  | .inverse r s => .tup [.str "inverse", .str (nmAt N.rs r), .str (nmAt N.rs s)]
  | .qu q => dQ N q
/-- names below the sizes -/
def WQ.wf (g : Gp) : WQ → Prop
  | .never => True
  | .below c d => c.wf g.nc g.nr ∧ d.wf g.nc g.nr
  | .is a c => a < g.ni ∧ c.wf g.nc g.nr
  | .has a n b => a < g.ni ∧ n < g.nr ∧ b < g.ni
def WS.wf (g : Gp) : WS → Prop
  | .equals c d => c.wf g.nc g.nr ∧ d.wf g.nc g.nr
  | .apart c d => c.wf g.nc g.nr ∧ d.wf g.nc g.nr
  | .domain r c => r.1 < g.nr ∧ c.wf g.nc g.nr
  | .range r c => r.1 < g.nr ∧ c.wf g.nc g.nr
  | .under r s => r.1 < g.nr ∧ s.1 < g.nr
  | .inverse r s => r < g.nr ∧ s < g.nr
  | .qu q => q.wf g
def WQ.depth : WQ → Nat
  | .below c d => max c.depth d.depth
  | .is _ c => c.depth
  | _ => 0
def WS.depth : WS → Nat
  | .equals c d => max c.depth d.depth
  | .apart c d => max c.depth d.depth
  | .domain _ c => c.depth
  | .range _ c => c.depth
  | .qu q => q.depth
  | _ => 0
theorem nmAt_get {l : List Str} {i : Nat} (h : i < l.length) : l[i]? = some (nmAt l i) := by
  unfold nmAt
  rw [List.getD_eq_getElem?_getD, List.getElem?_eq_getElem h]
  rfl
theorem nd_ix {l : List Str} (nd : l.Nodup) {i m : Nat} (h : i < l.length) (hm : m < i) : l[m]? ≠ some (nmAt l i) := fun e => by
  have e2 := nmAt_get h
  have hm' : m < l.length := Nat.lt_trans hm h
  rw [List.getElem?_eq_getElem hm'] at e
  rw [List.getElem?_eq_getElem h] at e2
  have e3 : l[m] = l[i] := (Option.some.inj e).trans (Option.some.inj e2).symm
  have := (List.getElem_inj nd).mp e3
  omega
theorem tk_get {l : List Str} {n i : Nat} (hn : n ≤ l.length) (h : i < n) : (l.take n)[i]? = some (nmAt l i) := by
  rw [List.getElem?_take_of_lt h]
  exact nmAt_get (Nat.lt_of_lt_of_le h hn)
theorem tk_ix {l : List Str} (nd : l.Nodup) {n i m : Nat} (hn : n ≤ l.length) (h : i < n) (hm : m < i) : (l.take n)[m]? ≠ some (nmAt l i) := by
  rw [List.getElem?_take_of_lt (Nat.lt_trans hm h)]
  exact nd_ix nd (Nat.lt_of_lt_of_le h hn) hm
theorem eqv_dL (a b : Nat × Nat × Nat) : PyData.eqv (dL a).py (dL b).py = (a == b) := by
  obtain ⟨a1, a2, a3⟩ := a
  obtain ⟨b1, b2, b3⟩ := b
  simp only [dL, Da.py, Da.pyAll, PyData.eqv, PyData.eqvAll, Bool.and_true]
  rw [Bool.eq_iff_iff]
  simp only [Bool.and_eq_true, beq_iff_eq, Int.natCast_inj, Prod.mk.injEq]
theorem in_links (ls : List (Nat × Nat × Nat)) (l : Nat × Nat × Nat) : ((Da.pyAll (ls.map dL)).any fun z => PyData.eqv z (dL l).py) = ls.contains l := by
  rw [Da.pyAll_map, List.map_map, List.any_map]
  induction ls with
  | nil => rfl
  | cons a r ih =>
    rw [List.any_cons, ih, List.contains_cons]
    congr 1
    show PyData.eqv (dL a).py (dL l).py = (l == a)
    rw [eqv_dL, Bool.beq_comm]
theorem in_nats (ls : List Nat) (x : Nat) : ((Da.pyAll (ls.map dN)).any fun z => PyData.eqv z (dN x).py) = ls.contains x := by
  rw [Da.pyAll_map, List.map_map, List.any_map]
  induction ls with
  | nil => rfl
  | cons a r ih =>
    rw [List.any_cons, ih, List.contains_cons]
    congr 1
    simp only [Function.comp, dN, Da.py, PyData.eqv]
    rw [Bool.eq_iff_iff]
    simp only [beq_iff_eq, Int.natCast_inj]
    exact eq_comm
theorem pl_nats (ls : List Nat) : Da.plAll 40 (ls.map dN) = true := Da.plAll_of fun d hd => by
  obtain ⟨n, _, rfl⟩ := List.mem_map.mp hd
  rfl
theorem pl_links (ls : List (Nat × Nat × Nat)) : Da.plAll 40 (ls.map dL) = true := Da.plAll_of fun d hd => by
  obtain ⟨n, _, rfl⟩ := List.mem_map.mp hd
  rfl
theorem upto_nats (n : Nat) : upto n = (List.range n).map dN := rfl
end Kw

/-! the program's own defs: what each answers -/
namespace Kw
open PySem PySem.Spec PyProof.Rows L2 Evl
section
variable {PR : Program} {w : World} {K : PySem.W.Frag} {mg : Str → Option Value} {base : Heap} {aA : Addr}
theorem hu65 {k : Nat} {A : Around} (hr : Room k A) : A.units + 65 < cLine := by
  have := hr.un
  omega
theorem ix_k {X : Cx} {K : PySem.W.Frag} (h : X.K = K) : IxR X (rIx K) := by
  subst h
  exact ix_seq
theorem op_in_k {X : Cx} {K : PySem.W.Frag} (h : X.K = K) (hu : X.A.units + 65 < cLine) : OpR X (compareOp .In) (rInDT K false) := by
  subst h
  exact op_inDT hu
theorem op_nin_k {X : Cx} {K : PySem.W.Frag} (h : X.K = K) (hu : X.A.units + 65 < cLine) : OpR X (compareOp .NotIn) (rInDT K true) := by
  subst h
  exact op_notInDT hu
theorem pe_lix {X : Cx} {K : PySem.W.Frag} (h : X.K = K) {o e : Expr} {to : TE} {t : TA} {apos cpos : Pos} (ho : PE X o to) (ha : PA X [e] t)
    (hbase : attributeBase o "index" X.env (eval o X.env) = eval o X.env := by rfl)
    (hfew : ((backTo cpos (starEach [e] X.env)).all (fun x => !x.1) && (backToKw cpos (keywordEach [] X.env)).all (fun x => x.1.isSome)
      && decide ([e].length + ([] : List Keyword).length + (if ([] : List Keyword).isEmpty then 0 else 1) < 30)) = true := by rfl)
    (hline : (apos.endLine == cpos.line) = true := by rfl) (hs : starEach [e] X.env = (false, eval e X.env) :: starEach [] X.env := by rfl) (hplain : (backTo cpos (starEach [] X.env)).any (·.1) = false := by rfl) :
    PE X (.Call (.Attribute o "index" apos) [e] [] cpos) (tBM K "list" (rIndex K) to t) := by
  subst h
  exact pe_bm PySem.F.plainAttrs_list PySem.F.slot_list_index PySem.F.type_list_index mt_index ho ha hbase hfew hline hs hplain
theorem sm {n : Nat} (h : Nat.ble n 100000 = true) : n ≤ 100000 := Nat.le_of_ble_eq_true h
/-! ### inverse_of -/
def preInv (r : Ro) (ds : List Da) : Prop := ds = [dRc r]
def postInv (r : Ro) (d : Da) : Prop := d = dRc (r.1, !r.2)
theorem cl_inverse_of (T : Txt K mg aA) : Cl PR w K mg base 1 "inverse_of" ["role"] (spP K preInv postInv) := by
  refine okP T.d_inverse_of sc_inverse_of (fun p ds h => by rw [h]; rfl) (fun _ _ _ _ _ _ us hl => match us, hl with | [_], _ => rfl) (fun f cdv A outer s H E hr => ⟨_, (pss_one (ps_ret (pe_tup (pa_cons (pe_ix (ix_k (K := K) rfl) (pv 0) pe_int (fun _ _ => rfl)) (pa_cons (pe_not (pe_ix (ix_k (K := K) rfl) (pv 0) pe_int (fun _ _ => rfl))) pa_nil))))), ?_⟩)
  rintro r ds Z wh Q rfl q
  refine nx_ret q (ed_tup (ea_cons (ed_op (ed_var rfl (ed_int (od_ix ⟨_, rfl, ?_⟩))))))
  refine ea_cons (ed_not (ed_op (ed_var rfl (ed_int (od_ix ⟨_, rfl, _, rfl, ?_⟩)))))
  exact ea_nil ⟨sm rfl, rfl⟩
/-! ### core_role -/
def preRo (p : Gp × Ro) (ds : List Da) : Prop := p.1.ok ∧ p.2.1 < p.1.nr ∧ ds = [told p.1, dRw p.1.N p.2]
def postRo (p : Gp × Ro) (d : Da) : Prop := d = dRc p.2
theorem cl_core_role (T : Txt K mg aA) : Cl PR w K mg base 1 "core_role" ["names", "role"] (spP K preRo postRo) := by
  refine okP T.d_core_role sc_core_role (fun p ds h => by rw [h.2.2]; rfl) (fun _ _ _ _ _ _ us hl => match us, hl with | [_, _], _ => rfl) (fun f cdv A outer s H E hr => ⟨_, (pss_one (ps_ret (pe_tup (pa_cons (pe_tix (pe_ix (ix_k (K := K) rfl) (pv 0) pe_int (fun _ _ => rfl)) (pa_cons (pe_ix (ix_k (K := K) rfl) (pv 1) pe_int (fun _ _ => rfl)) pa_nil)) (pa_cons (pe_ix (ix_k (K := K) rfl) (pv 1) pe_int (fun _ _ => rfl)) pa_nil))))), ?_⟩)
  rintro ⟨g, r⟩ ds Z wh Q ⟨ok, hlt, rfl⟩ q
  refine nx_ret q (ed_tup (ea_cons (ed_tix (ed_op (ed_var rfl (ed_int (od_ix ⟨_, rfl, _, rfl, ?_⟩)))))))
  refine ed_op (ed_var rfl (ed_int (od_ix ⟨_, rfl, nmAt g.N.rs r.1, r.1, rfl, tk_get ok.lr hlt, fun m hm => tk_ix ok.rs ok.lr hlt hm, ?_⟩)))
  refine ea_cons (ed_op (ed_var rfl (ed_int (od_ix ⟨_, rfl, ?_⟩))))
  exact ea_nil ⟨sm rfl, rfl⟩
/-! ### is_related -/
def preRel (p : Mo × Ro × Nat × Nat) (ds : List Da) : Prop := ds = [dM p.1, dRc p.2.1, dN p.2.2.1, dN p.2.2.2]
def postRel (p : Mo × Ro × Nat × Nat) (d : Da) : Prop := d = .bl (rel p.1 p.2.1 p.2.2.1 p.2.2.2)
theorem cl_is_related (T : Txt K mg aA) : Cl PR w K mg base 1 "is_related" ["model", "role", "first", "second"] (spP K preRel postRel) := by
  refine okP T.d_is_related sc_is_related (fun p ds h => by rw [h]; rfl) (fun _ _ _ _ _ _ us hl => match us, hl with | [_, _, _, _], _ => rfl) (fun f cdv A outer s H E hr => ?_)
  have hu := hu65 hr
  refine ⟨_, (pss_cons (ps_if (pt_val (pe_ix (ix_k (K := K) rfl) (pv 1) pe_int (fun _ _ => rfl))) (pss_one (ps_ret (pe_cmpR (op_in_k (K := K) rfl hu) (pe_tup (pa_cons (pe_ix (ix_k (K := K) rfl) (pv 1) pe_int (fun _ _ => rfl)) (pa_cons (pv 3) (pa_cons (pv 2) pa_nil)))) (pe_ix (ix_k (K := K) rfl) (pv 0) pe_int (fun _ _ => rfl)) (by rfl)))) pss_nil)
    (pss_one (ps_ret (pe_cmpR (op_in_k (K := K) rfl hu) (pe_tup (pa_cons (pe_ix (ix_k (K := K) rfl) (pv 1) pe_int (fun _ _ => rfl)) (pa_cons (pv 2) (pa_cons (pv 3) pa_nil)))) (pe_ix (ix_k (K := K) rfl) (pv 0) pe_int (fun _ _ => rfl)) (by rfl))))), ?_⟩
  rintro ⟨M, ⟨r, b⟩, x, y⟩ ds Z wh Q rfl q
  refine nx_seq (nx_if (eb_B (ed_op (ed_var rfl (ed_int (od_ix ⟨_, rfl, _, rfl, ?_⟩))))))
  refine ⟨fun hb => ?_, fun hb => nx_next ?_⟩
  · refine nx_ret q (ed_op (ed_tup (ea_cons (ed_op (ed_var rfl (ed_int (od_ix ⟨_, rfl, ?_⟩)))))))
    refine ea_cons (ed_var rfl (ea_cons (ed_var rfl (ea_nil ⟨sm rfl, ?_⟩))))
    refine ed_op (ed_var rfl (ed_int (od_ix ⟨_, rfl, od_inDT ⟨_, .inr rfl, rfl, pl_links _, ?_⟩⟩)))
    show Da.bl _ = Da.bl _
    rw [if_neg Bool.false_ne_true]
    show Da.bl _ = Da.bl (rel M (r, b) x y)
    rw [show b = true from hb]
    exact congrArg Da.bl (in_links M.links (r, y, x))
  · refine nx_ret q (ed_op (ed_tup (ea_cons (ed_op (ed_var rfl (ed_int (od_ix ⟨_, rfl, ?_⟩)))))))
    refine ea_cons (ed_var rfl (ea_cons (ed_var rfl (ea_nil ⟨sm rfl, ?_⟩))))
    refine ed_op (ed_var rfl (ed_int (od_ix ⟨_, rfl, od_inDT ⟨_, .inr rfl, rfl, pl_links _, ?_⟩⟩)))
    show Da.bl _ = Da.bl _
    rw [if_neg Bool.false_ne_true]
    show Da.bl _ = Da.bl (rel M (r, b) x y)
    rw [show b = false from hb]
    exact congrArg Da.bl (in_links M.links (r, x, y))
end
end Kw

/-! core_concept, core_question, parts -/
namespace Kw
open PySem PySem.Spec PyProof.Rows L2 Evl
section
variable {K : PySem.W.Frag} {c : Cn} {δ : List SD} {Hb : Hp} {D : Ends} {t u : TS}
theorem nx_kF {i : Nat} {s s' : Str} (hi : δ[i]? = some (.dat (.str s))) (hn : decide (s = s') = false) (h : Nx K c δ Hb (u D)) : Nx K c δ Hb (tSeq (tIfS (tTest (tOp rEq (tVar i) (tC (.str s')))) t tNext) u D) :=
  nx_seq (nx_if (eb_test (ed_op (ed_var hi (ed_str (od_eq ⟨_, rfl, _, rfl, (fun e => absurd (hn.symm.trans e) Bool.false_ne_true), fun _ => nx_next h⟩))))))
theorem nx_kT {i : Nat} {s s' : Str} {v : TS} (hi : δ[i]? = some (.dat (.str s))) (hn : decide (s = s') = true) (h : Nx K c δ Hb (t { D with nx := u D })) : Nx K c δ Hb (tSeq (tIfS (tTest (tOp rEq (tVar i) (tC (.str s')))) t v) u D) :=
  nx_seq (nx_if (eb_test (ed_op (ed_var hi (ed_str (od_eq ⟨_, rfl, _, rfl, (fun _ => h), (fun e => absurd (e.symm.trans hn) Bool.false_ne_true)⟩))))))
end
section
variable {PR : Program} {w : World} {K : PySem.W.Frag} {mg : Str → Option Value} {base : Heap} {aA : Addr}
theorem cl_none {α : Type} {x : Str} {st : Stmt} {ps : List Str} {k : Nat} {Pre : α → List Da → Prop} {Post : α → Da → Prop} (F : Df K mg x st)
    (hb : ∀ (kV doc pm : Value) (an : Option Addr) (cdv ct : Value) (us : List Value), us.length = ps.length → bindArgs (PySem.W.fnOf x x (defArgs st) (defBody st) (defScope st) .none kV doc pm an cdv ct) ⟨us, []⟩ = pure (ps.zip us))
    (no : ∀ p ds, ¬ Pre p ds) : Cl PR w K mg base k x ps (spP K Pre Post) := by
  obtain ⟨f, fd, F, m⟩ := F
  have nn : ∀ vs H Q E, ¬ spP K Pre Post vs H Q E := fun vs H Q E h => by
    obtain ⟨p, Z, ds, _, _, hp, _⟩ := h
    exact no p ds hp
  exact ⟨f, fd, ⟨fun vs H Q E h => absurd h (nn vs H Q E), fun A outer s H args us vs Q E _ _ _ _ h => absurd h (nn vs H Q E)⟩, m, F.kp, F.binds hb⟩
theorem cl_noneG {α : Type} {x : Str} {st : Stmt} {ps : List Str} {k : Nat} {Pre : α → List Da → Prop} {Post : α → Da → Prop} (F : Df K mg x st)
    (hb : ∀ (kV doc pm : Value) (an : Option Addr) (cdv ct : Value) (us : List Value), us.length = ps.length → bindArgs (PySem.W.fnOf x x (defArgs st) (defBody st) (defScope st) .none kV doc pm an cdv ct) ⟨us, []⟩ = pure (ps.zip us))
    (no : ∀ p ds, ¬ Pre p ds) : Cl PR w K mg base k x ps (spG K Pre Post) := by
  obtain ⟨f, fd, F, m⟩ := F
  have nn : ∀ vs H Q E, ¬ spG K Pre Post vs H Q E := fun vs H Q E h => by
    obtain ⟨p, Z, a, rest, ds, _, _, _, _, _, hp, _⟩ := h
    exact no p ds hp
  exact ⟨f, fd, ⟨fun vs H Q E h => absurd h (nn vs H Q E), fun A outer s H args us vs Q E _ _ _ _ h => absurd h (nn vs H Q E)⟩, m, F.kp, F.binds hb⟩
theorem Cl.mono {j k : Nat} {nm : Str} {ps : List Str} {sp : Sp} (h : Cl PR w K mg base j nm ps sp) (hjk : j ≤ k) : Cl PR w K mg base k nm ps sp := by
  obtain ⟨f, fd, G, m, kp, b⟩ := h
  exact ⟨f, fd, G.mono hjk, m, kp, b⟩
theorem sm' {n : Nat} (h : Nat.ble (n + 1) 100000 = true) : n < 100000 := Nat.le_of_ble_eq_true h
/-! ### core_concept -/
def preCo (n : Nat) (p : Gp × WC) (ds : List Da) : Prop := p.1.ok ∧ p.2.wf p.1.nc p.1.nr ∧ p.2.depth < n ∧ ds = [told p.1, dW p.1.N p.2]
def postCo (p : Gp × WC) (d : Da) : Prop := d = dC (core p.2)
theorem cl_core_concept (T : Txt K mg aA) : ∀ n : Nat, Cl PR w K mg base (n + 1) "core_concept" ["names", "concept"] (spP K (preCo n) postCo)
  | 0 => cl_none T.d_core_concept (fun _ _ _ _ _ _ us hl => match us, hl with | [_, _], _ => rfl) fun p ds h => absurd h.2.2.1 (Nat.not_lt_zero _)
  | n + 1 => by
    obtain ⟨f1, fd1, G_core_concept, m_core_concept, k_core_concept, b_core_concept⟩ := cl_core_concept T n
    obtain ⟨f2, fd2, G_core_role, m_core_role, k_core_role, b_core_role⟩ := cl_core_role (PR := PR) (w := w) (base := base) T
    refine okP T.d_core_concept sc_core_concept (fun p ds h => by rw [h.2.2.2]; rfl) (fun _ _ _ _ _ _ us hl => match us, hl with | [_, _], _ => rfl) (fun f cdv A outer s H E hr => ⟨_, (pss_cons (ps_set (i := 2) sc_core_concept.nd rfl (Or.inl rfl) (pe_ix (ix_k (K := K) rfl) (pv 1) pe_int (fun _ _ => rfl)))
    (pss_cons (ps_if (pt_cmpR op_eq (pv 2) pe_str (nomark _)) (pss_one (ps_ret (pe_glob (v := .ref aA) rfl T.mANY rfl))) pss_nil)
    (pss_cons (ps_if (pt_cmpR op_eq (pv 2) pe_str (nomark _)) (pss_one (ps_ret (pe_tup (pa_cons pe_str (pa_cons (pe_glob (v := .ref aA) rfl T.mANY rfl) pa_nil))))) pss_nil)
    (pss_cons (ps_if (pt_cmpR op_eq (pv 2) pe_str (nomark _)) (pss_one (ps_ret (pe_tup (pa_cons pe_str (pa_cons (pe_tix (pe_ix (ix_k (K := K) rfl) (pv 0) pe_int (fun _ _ => rfl)) (pa_cons (pe_ix (ix_k (K := K) rfl) (pv 1) pe_int (fun _ _ => rfl)) pa_nil)) pa_nil))))) pss_nil)
    (pss_cons (ps_if (pt_cmpR op_eq (pv 2) pe_str (nomark _)) (pss_one (ps_ret (pe_tup (pa_cons pe_str (pa_cons (pe_call G_core_concept (hr.mono (by omega)) rfl m_core_concept k_core_concept b_core_concept .nil pass0 (pa_cons (pv 0) (pa_cons (pe_ix (ix_k (K := K) rfl) (pv 1) pe_int (fun _ _ => rfl)) pa_nil))) pa_nil))))) pss_nil)
    (pss_cons (ps_if (pt_cmpR op_eq (pv 2) pe_str (nomark _)) (pss_one (ps_ret (pe_tup (pa_cons pe_str (pa_cons (pe_call G_core_role (hr.mono (by omega)) rfl m_core_role k_core_role b_core_role .nil pass0 (pa_cons (pv 0) (pa_cons (pe_ix (ix_k (K := K) rfl) (pv 1) pe_int (fun _ _ => rfl)) pa_nil))) (pa_cons (pe_call G_core_concept (hr.mono (by omega)) rfl m_core_concept k_core_concept b_core_concept .nil pass0 (pa_cons (pv 0) (pa_cons (pe_ix (ix_k (K := K) rfl) (pv 1) pe_int (fun _ _ => rfl)) pa_nil))) pa_nil)))))) pss_nil)
    (pss_cons (ps_if (pt_cmpR op_eq (pv 2) pe_str (nomark _)) (pss_one (ps_ret (pe_tup (pa_cons pe_str (pa_cons (pe_tup (pa_cons pe_str (pa_cons (pe_call G_core_role (hr.mono (by omega)) rfl m_core_role k_core_role b_core_role .nil pass0 (pa_cons (pv 0) (pa_cons (pe_ix (ix_k (K := K) rfl) (pv 1) pe_int (fun _ _ => rfl)) pa_nil))) (pa_cons (pe_tup (pa_cons pe_str (pa_cons (pe_call G_core_concept (hr.mono (by omega)) rfl m_core_concept k_core_concept b_core_concept .nil pass0 (pa_cons (pv 0) (pa_cons (pe_ix (ix_k (K := K) rfl) (pv 1) pe_int (fun _ _ => rfl)) pa_nil))) pa_nil))) pa_nil)))) pa_nil))))) pss_nil)
    (pss_cons (ps_set (i := 3) sc_core_concept.nd rfl (Or.inl rfl) (pe_call G_core_concept (hr.mono (by omega)) rfl m_core_concept k_core_concept b_core_concept .nil pass0 (pa_cons (pv 0) (pa_cons (pe_ix (ix_k (K := K) rfl) (pv 1) pe_int (fun _ _ => rfl)) pa_nil))))
    (pss_cons (ps_set (i := 4) sc_core_concept.nd rfl (Or.inl rfl) (pe_call G_core_concept (hr.mono (by omega)) rfl m_core_concept k_core_concept b_core_concept .nil pass0 (pa_cons (pv 0) (pa_cons (pe_ix (ix_k (K := K) rfl) (pv 1) pe_int (fun _ _ => rfl)) pa_nil))))
    (pss_cons (ps_if (pt_cmpR op_eq (pv 2) pe_str (nomark _)) (pss_one (ps_ret (pe_tup (pa_cons pe_str (pa_cons (pv 3) (pa_cons (pv 4) pa_nil)))))) pss_nil)
    (pss_one (ps_ret (pe_tup (pa_cons pe_str (pa_cons (pe_tup (pa_cons pe_str (pa_cons (pe_tup (pa_cons pe_str (pa_cons (pv 3) pa_nil))) (pa_cons (pe_tup (pa_cons pe_str (pa_cons (pv 4) pa_nil))) pa_nil)))) pa_nil))))))))))))))), ?_⟩)
    rintro ⟨g, c⟩ ds Z wh Q ⟨ok, wf, hd, rfl⟩ q
    replace hd : c.depth < n + 1 := hd
    cases c with
    | anything =>
      refine nx_seq (nx_asg (ed_op (ed_var rfl (ed_int (od_ix ⟨_, rfl, ?_⟩)))))
      refine nx_kT rfl (by decide +kernel) ?_
      exact nx_ret q (ed_cst T.dANY rfl)
    | nothing =>
      refine nx_seq (nx_asg (ed_op (ed_var rfl (ed_int (od_ix ⟨_, rfl, ?_⟩)))))
      refine nx_kF rfl (by decide +kernel) (nx_kT rfl (by decide +kernel) ?_)
      exact nx_ret q (ed_tup (ea_cons (ed_str (ea_cons (ed_cst T.dANY (ea_nil ⟨sm rfl, rfl⟩))))))
    | name i =>
      refine nx_seq (nx_asg (ed_op (ed_var rfl (ed_int (od_ix ⟨_, rfl, ?_⟩)))))
      refine nx_kF rfl (by decide +kernel) (nx_kF rfl (by decide +kernel) (nx_kT rfl (by decide +kernel) ?_))
      refine nx_ret q (ed_tup (ea_cons (ed_str (ea_cons (ed_tix (ed_op (ed_var rfl (ed_int (od_ix ⟨_, rfl, _, rfl, ?_⟩)))))))))
      refine ed_op (ed_var rfl (ed_int (od_ix ⟨_, rfl, nmAt g.N.cs i, i, rfl, tk_get ok.lc wf, fun m hm => tk_ix ok.cs ok.lc wf hm, ?_⟩)))
      exact ea_nil ⟨sm rfl, rfl⟩
    | not c =>
      have h1 : c.depth < n := Nat.lt_of_succ_lt_succ hd
      refine nx_seq (nx_asg (ed_op (ed_var rfl (ed_int (od_ix ⟨_, rfl, ?_⟩)))))
      refine nx_kF rfl (by decide +kernel) (nx_kF rfl (by decide +kernel) (nx_kF rfl (by decide +kernel) (nx_kT rfl (by decide +kernel) ?_)))
      refine nx_ret q (ed_tup (ea_cons (ed_str (ea_cons (ed_call (ea_cons (ed_var rfl (ea_cons (ed_op (ed_var rfl (ed_int (od_ix ⟨_, rfl, ?_⟩))))))))))))
      refine ea_nil ⟨(g, c), ⟨ok, wf, h1, rfl⟩, fun d hd => ?_⟩
      cases hd
      exact ea_nil ⟨sm rfl, rfl⟩
    | some r c =>
      have h1 : c.depth < n := Nat.lt_of_succ_lt_succ hd
      refine nx_seq (nx_asg (ed_op (ed_var rfl (ed_int (od_ix ⟨_, rfl, ?_⟩)))))
      refine nx_kF rfl (by decide +kernel) (nx_kF rfl (by decide +kernel) (nx_kF rfl (by decide +kernel) (nx_kF rfl (by decide +kernel) (nx_kT rfl (by decide +kernel) ?_))))
      refine nx_ret q (ed_tup (ea_cons (ed_str (ea_cons (ed_call (ea_cons (ed_var rfl (ea_cons (ed_op (ed_var rfl (ed_int (od_ix ⟨_, rfl, ?_⟩))))))))))))
      refine ea_nil ⟨(g, r), ⟨ok, wf.1, rfl⟩, fun d hd => ?_⟩
      cases hd
      refine ea_cons (ed_call (ea_cons (ed_var rfl (ea_cons (ed_op (ed_var rfl (ed_int (od_ix ⟨_, rfl, ?_⟩))))))))
      refine ea_nil ⟨(g, c), ⟨ok, wf.2, h1, rfl⟩, fun d hd => ?_⟩
      cases hd
      exact ea_nil ⟨sm rfl, rfl⟩
    | all r c =>
      have h1 : c.depth < n := Nat.lt_of_succ_lt_succ hd
      refine nx_seq (nx_asg (ed_op (ed_var rfl (ed_int (od_ix ⟨_, rfl, ?_⟩)))))
      refine nx_kF rfl (by decide +kernel) (nx_kF rfl (by decide +kernel) (nx_kF rfl (by decide +kernel) (nx_kF rfl (by decide +kernel) (nx_kF rfl (by decide +kernel) (nx_kT rfl (by decide +kernel) ?_)))))
      refine nx_ret q (ed_tup (ea_cons (ed_str (ea_cons (ed_tup (ea_cons (ed_str (ea_cons (ed_call (ea_cons (ed_var rfl (ea_cons (ed_op (ed_var rfl (ed_int (od_ix ⟨_, rfl, ?_⟩))))))))))))))))
      refine ea_nil ⟨(g, r), ⟨ok, wf.1, rfl⟩, fun d hd => ?_⟩
      cases hd
      refine ea_cons (ed_tup (ea_cons (ed_str (ea_cons (ed_call (ea_cons (ed_var rfl (ea_cons (ed_op (ed_var rfl (ed_int (od_ix ⟨_, rfl, ?_⟩))))))))))))
      refine ea_nil ⟨(g, c), ⟨ok, wf.2, h1, rfl⟩, fun d hd => ?_⟩
      cases hd
      exact ea_nil ⟨sm rfl, ea_nil ⟨sm rfl, ea_nil ⟨sm rfl, rfl⟩⟩⟩
    | and c1 c2 =>
      have h1 : c1.depth < n := by have : max c1.depth c2.depth + 1 < n + 1 := hd; omega
      have h2 : c2.depth < n := by have : max c1.depth c2.depth + 1 < n + 1 := hd; omega
      refine nx_seq (nx_asg (ed_op (ed_var rfl (ed_int (od_ix ⟨_, rfl, ?_⟩)))))
      refine nx_kF rfl (by decide +kernel) (nx_kF rfl (by decide +kernel) (nx_kF rfl (by decide +kernel) (nx_kF rfl (by decide +kernel) (nx_kF rfl (by decide +kernel) (nx_kF rfl (by decide +kernel) ?_)))))
      refine nx_seq (nx_asg (ed_call (ea_cons (ed_var rfl (ea_cons (ed_op (ed_var rfl (ed_int (od_ix ⟨_, rfl, ?_⟩)))))))))
      refine ea_nil ⟨(g, c1), ⟨ok, wf.1, h1, rfl⟩, fun d hd => ?_⟩
      cases hd
      refine nx_seq (nx_asg (ed_call (ea_cons (ed_var rfl (ea_cons (ed_op (ed_var rfl (ed_int (od_ix ⟨_, rfl, ?_⟩)))))))))
      refine ea_nil ⟨(g, c2), ⟨ok, wf.2, h2, rfl⟩, fun d hd => ?_⟩
      cases hd
      refine nx_kT rfl (by decide +kernel) ?_
      exact nx_ret q (ed_tup (ea_cons (ed_str (ea_cons (ed_var rfl (ea_cons (ed_var rfl (ea_nil ⟨sm rfl, rfl⟩))))))))
    | or c1 c2 =>
      have h1 : c1.depth < n := by have : max c1.depth c2.depth + 1 < n + 1 := hd; omega
      have h2 : c2.depth < n := by have : max c1.depth c2.depth + 1 < n + 1 := hd; omega
      refine nx_seq (nx_asg (ed_op (ed_var rfl (ed_int (od_ix ⟨_, rfl, ?_⟩)))))
      refine nx_kF rfl (by decide +kernel) (nx_kF rfl (by decide +kernel) (nx_kF rfl (by decide +kernel) (nx_kF rfl (by decide +kernel) (nx_kF rfl (by decide +kernel) (nx_kF rfl (by decide +kernel) ?_)))))
      refine nx_seq (nx_asg (ed_call (ea_cons (ed_var rfl (ea_cons (ed_op (ed_var rfl (ed_int (od_ix ⟨_, rfl, ?_⟩)))))))))
      refine ea_nil ⟨(g, c1), ⟨ok, wf.1, h1, rfl⟩, fun d hd => ?_⟩
      cases hd
      refine nx_seq (nx_asg (ed_call (ea_cons (ed_var rfl (ea_cons (ed_op (ed_var rfl (ed_int (od_ix ⟨_, rfl, ?_⟩)))))))))
      refine ea_nil ⟨(g, c2), ⟨ok, wf.2, h2, rfl⟩, fun d hd => ?_⟩
      cases hd
      refine nx_kF rfl (by decide +kernel) ?_
      refine nx_ret q <| ed_tup <| ea_cons <| ed_str <| ea_cons <| ed_tup <| ea_cons <| ed_str <| ea_cons <| ed_tup <| ea_cons <| ed_str <| ea_cons <| ed_var rfl <| ea_nil ⟨sm rfl, ?_⟩
      refine ea_cons <| ed_tup <| ea_cons <| ed_str <| ea_cons <| ed_var rfl <| ea_nil ⟨sm rfl, ?_⟩
      exact ea_nil ⟨sm rfl, ea_nil ⟨sm rfl, rfl⟩⟩
end
end Kw

/-! core_question, parts -/
namespace Kw
open PySem PySem.Spec PyProof.Rows L2 Evl
section
variable {K : PySem.W.Frag} {c : Cn} {δ : List SD} {Hb : Hp} {D : Ends} {t u : TS} {te : TE} {tas : TA}
theorem pyAll_strs (l : List Str) (s : Str) : ((Da.pyAll (l.map Da.str)).any fun z => PyData.eqv z (Da.str s).py) = l.any fun x => x == s := by
  rw [Da.pyAll_map, List.map_map, List.any_map]
  congr 1
theorem pl_strs {l : List Str} (h : l.all PyData.strOk = true) : Da.plAll 40 (l.map Da.str) = true := Da.plAll_of fun d hd => by
  obtain ⟨x, hx, rfl⟩ := List.mem_map.mp hd
  exact List.all_eq_true.mp h x hx
theorem eb_inS {s : Str} {P : Bool → Prop} (h : Ed K c δ Hb te fun a => a = .str s ∧ Ea K c δ Hb tas fun ds => ∃ l : List Str, ds = l.map Da.str ∧ l.length ≤ 100000 ∧ PyData.strOk s = true ∧ l.all PyData.strOk = true ∧ P (l.any fun x => x == s)) :
    Eb K c δ Hb (tTest (tOp (rInDT K false) te (tTup tas))) P := by
  refine eb_test <| ed_op <| h.mono fun a ⟨e, h1⟩ => ed_tup ?_
  subst e
  refine fun σ H r ok s' Q q => h1 σ H r ok s' Q fun vs ds H2 r2 ok2 ⟨l, e, hl, h2, h3, p⟩ dv => q vs ds H2 r2 ok2 ⟨by rw [e, List.length_map]; exact hl, ?_⟩ dv
  subst e
  refine od_inDT ⟨_, .inr rfl, h2, pl_strs h3, _, rfl, ?_⟩
  rw [if_neg Bool.false_ne_true, pyAll_strs]
  exact p
end
section
variable {PR : Program} {w : World} {K : PySem.W.Frag} {mg : Str → Option Value} {base : Heap} {aA : Addr}
/-! ### core_question -/
def preQu (n : Nat) (p : Gp × WQ) (ds : List Da) : Prop := p.1.ok ∧ p.2.wf p.1 ∧ p.2.depth < n ∧ ds = [told p.1, dQ p.1.N p.2]
def postQu (p : Gp × WQ) (d : Da) : Prop := d = dCQ (coreQ p.2)
theorem cl_core_question (T : Txt K mg aA) (n : Nat) : Cl PR w K mg base (n + 2) "core_question" ["names", "question"] (spP K (preQu n) postQu) := by
  obtain ⟨f1, fd1, G_core_concept, m_core_concept, k_core_concept, b_core_concept⟩ := cl_core_concept (PR := PR) (w := w) (base := base) T n
  refine okP T.d_core_question sc_core_question (fun p ds h => by rw [h.2.2.2]; rfl) (fun _ _ _ _ _ _ us hl => match us, hl with | [_, _], _ => rfl) (fun f cdv A outer s H E hr => ⟨_, (pss_cons (ps_set (i := 2) sc_core_question.nd rfl (Or.inl rfl) (pe_ix (ix_k (K := K) rfl) (pv 1) pe_int (fun _ _ => rfl)))
    (pss_cons (ps_if (pt_cmpR op_eq (pv 2) pe_str (nomark _)) (pss_one (ps_ret (pe_tup (pa_cons pe_str (pa_cons (pe_call G_core_concept (hr.mono (by omega)) rfl m_core_concept k_core_concept b_core_concept .nil pass0 (pa_cons (pv 0) (pa_cons (pe_ix (ix_k (K := K) rfl) (pv 1) pe_int (fun _ _ => rfl)) pa_nil))) (pa_cons (pe_call G_core_concept (hr.mono (by omega)) rfl m_core_concept k_core_concept b_core_concept .nil pass0 (pa_cons (pv 0) (pa_cons (pe_ix (ix_k (K := K) rfl) (pv 1) pe_int (fun _ _ => rfl)) pa_nil))) pa_nil)))))) pss_nil)
    (pss_cons (ps_if (pt_cmpR op_eq (pv 2) pe_str (nomark _)) (pss_one (ps_ret (pe_tup (pa_cons pe_str (pa_cons (pe_tix (pe_ix (ix_k (K := K) rfl) (pv 0) pe_int (fun _ _ => rfl)) (pa_cons (pe_ix (ix_k (K := K) rfl) (pv 1) pe_int (fun _ _ => rfl)) pa_nil)) (pa_cons (pe_call G_core_concept (hr.mono (by omega)) rfl m_core_concept k_core_concept b_core_concept .nil pass0 (pa_cons (pv 0) (pa_cons (pe_ix (ix_k (K := K) rfl) (pv 1) pe_int (fun _ _ => rfl)) pa_nil))) pa_nil)))))) pss_nil)
    (pss_cons (ps_if (pt_cmpR op_eq (pv 2) pe_str (nomark _)) (pss_cons (ps_set (i := 3) sc_core_question.nd rfl (Or.inl rfl) (pe_tix (pe_ix (ix_k (K := K) rfl) (pv 0) pe_int (fun _ _ => rfl)) (pa_cons (pe_ix (ix_k (K := K) rfl) (pv 1) pe_int (fun _ _ => rfl)) pa_nil)))
    (pss_one (ps_ret (pe_tup (pa_cons pe_str (pa_cons (pv 3) (pa_cons (pe_tix (pe_ix (ix_k (K := K) rfl) (pv 0) pe_int (fun _ _ => rfl)) (pa_cons (pe_ix (ix_k (K := K) rfl) (pv 1) pe_int (fun _ _ => rfl)) pa_nil)) (pa_cons (pe_tix (pe_ix (ix_k (K := K) rfl) (pv 0) pe_int (fun _ _ => rfl)) (pa_cons (pe_ix (ix_k (K := K) rfl) (pv 1) pe_int (fun _ _ => rfl)) pa_nil)) pa_nil)))))))) pss_nil)
    (pss_one (ps_ret (pe_tup (pa_cons pe_str pa_nil)))))))), ?_⟩)
  rintro ⟨g, qq⟩ ds Z wh Q ⟨ok, wf, hd, rfl⟩ q
  replace hd : qq.depth < n := hd
  cases qq with
  | never =>
    refine nx_seq <| nx_asg <| ed_op <| ed_var rfl <| ed_int <| od_ix ⟨_, rfl, ?_⟩
    refine nx_kF rfl (by decide +kernel) <| nx_kF rfl (by decide +kernel) <| nx_kF rfl (by decide +kernel) ?_
    exact nx_ret q <| ed_tup <| ea_cons <| ed_str <| ea_nil ⟨sm rfl, rfl⟩
  | below c1 c2 =>
    have h1 : c1.depth < n := by have : max c1.depth c2.depth < n := hd; omega
    have h2 : c2.depth < n := by have : max c1.depth c2.depth < n := hd; omega
    refine nx_seq <| nx_asg <| ed_op <| ed_var rfl <| ed_int <| od_ix ⟨_, rfl, ?_⟩
    refine nx_kT rfl (by decide +kernel) ?_
    refine nx_ret q <| ed_tup <| ea_cons <| ed_str <| ea_cons <| ed_call <| ea_cons <| ed_var rfl <| ea_cons <| ed_op <| ed_var rfl <| ed_int <| od_ix ⟨_, rfl, ?_⟩
    refine ea_nil ⟨(g, c1), ⟨ok, wf.1, h1, rfl⟩, fun d hd => ?_⟩
    cases hd
    refine ea_cons <| ed_call <| ea_cons <| ed_var rfl <| ea_cons <| ed_op <| ed_var rfl <| ed_int <| od_ix ⟨_, rfl, ?_⟩
    refine ea_nil ⟨(g, c2), ⟨ok, wf.2, h2, rfl⟩, fun d hd => ?_⟩
    cases hd
    exact ea_nil ⟨sm rfl, rfl⟩
  | is a c1 =>
    refine nx_seq <| nx_asg <| ed_op <| ed_var rfl <| ed_int <| od_ix ⟨_, rfl, ?_⟩
    refine nx_kF rfl (by decide +kernel) <| nx_kT rfl (by decide +kernel) ?_
    refine nx_ret q <| ed_tup <| ea_cons <| ed_str <| ea_cons <| ed_tix <| ed_op <| ed_var rfl <| ed_int <| od_ix ⟨_, rfl, _, rfl, ?_⟩
    refine ed_op <| ed_var rfl <| ed_int <| od_ix ⟨_, rfl, nmAt g.N.is a, a, rfl, tk_get ok.li wf.1, fun m hm => tk_ix ok.is ok.li wf.1 hm, ?_⟩
    refine ea_cons <| ed_call <| ea_cons <| ed_var rfl <| ea_cons <| ed_op <| ed_var rfl <| ed_int <| od_ix ⟨_, rfl, ?_⟩
    refine ea_nil ⟨(g, c1), ⟨ok, wf.2, hd, rfl⟩, fun d hd => ?_⟩
    cases hd
    exact ea_nil ⟨sm rfl, rfl⟩
  | has a m b =>
    refine nx_seq <| nx_asg <| ed_op <| ed_var rfl <| ed_int <| od_ix ⟨_, rfl, ?_⟩
    refine nx_kF rfl (by decide +kernel) <| nx_kF rfl (by decide +kernel) <| nx_kT rfl (by decide +kernel) ?_
    refine nx_seq <| nx_asg <| ed_tix <| ed_op <| ed_var rfl <| ed_int <| od_ix ⟨_, rfl, _, rfl, ?_⟩
    refine ed_op <| ed_var rfl <| ed_int <| od_ix ⟨_, rfl, nmAt g.N.is a, a, rfl, tk_get ok.li wf.1, fun m hm => tk_ix ok.is ok.li wf.1 hm, ?_⟩
    refine nx_ret q <| ed_tup <| ea_cons <| ed_str <| ea_cons <| ed_var rfl <| ea_cons <| ed_tix <| ed_op <| ed_var rfl <| ed_int <| od_ix ⟨_, rfl, _, rfl, ?_⟩
    refine ed_op <| ed_var rfl <| ed_int <| od_ix ⟨_, rfl, nmAt g.N.rs m, m, rfl, tk_get ok.lr wf.2.1, fun k hk => tk_ix ok.rs ok.lr wf.2.1 hk, ?_⟩
    refine ea_cons <| ed_tix <| ed_op <| ed_var rfl <| ed_int <| od_ix ⟨_, rfl, _, rfl, ?_⟩
    refine ed_op <| ed_var rfl <| ed_int <| od_ix ⟨_, rfl, nmAt g.N.is b, b, rfl, tk_get ok.li wf.2.2, fun k hk => tk_ix ok.is ok.li wf.2.2 hk, ?_⟩
    exact ea_nil ⟨sm rfl, rfl⟩
/-! ### parts -/
def preSt (n : Nat) (p : Gp × WS) (ds : List Da) : Prop := p.1.ok ∧ p.2.wf p.1 ∧ p.2.depth < n ∧ ds = [told p.1, dS p.1.N p.2]
def postSt (p : Gp × WS) (d : Da) : Prop := d = .tup ((coreS p.2).map dCQ)
theorem cl_parts (T : Txt K mg aA) (n : Nat) : Cl PR w K mg base (n + 3) "parts" ["names", "statement"] (spP K (preSt n) postSt) := by
  obtain ⟨f1, fd1, G_core_concept, m_core_concept, k_core_concept, b_core_concept⟩ := cl_core_concept (PR := PR) (w := w) (base := base) T n
  obtain ⟨f2, fd2, G_core_question, m_core_question, k_core_question, b_core_question⟩ := cl_core_question (PR := PR) (w := w) (base := base) T n
  obtain ⟨f3, fd3, G_core_role, m_core_role, k_core_role, b_core_role⟩ := cl_core_role (PR := PR) (w := w) (base := base) T
  obtain ⟨f4, fd4, G_inverse_of, m_inverse_of, k_inverse_of, b_inverse_of⟩ := cl_inverse_of (PR := PR) (w := w) (base := base) T
  refine okP T.d_parts sc_parts (fun p ds h => by rw [h.2.2.2]; rfl) (fun _ _ _ _ _ _ us hl => match us, hl with | [_, _], _ => rfl) (fun f cdv A outer s H E hr => ?_)
  have hu := hu65 hr
  refine ⟨_, (pss_cons (ps_set (i := 2) sc_parts.nd rfl (Or.inl rfl) (pe_ix (ix_k (K := K) rfl) (pv 1) pe_int (fun _ _ => rfl)))
    (pss_cons (ps_if (pt_cmpR op_eq (pv 2) pe_str (nomark _)) (pss_cons (ps_set (i := 3) sc_parts.nd rfl (Or.inl rfl) (pe_call G_core_concept (hr.mono (by omega)) rfl m_core_concept k_core_concept b_core_concept .nil pass0 (pa_cons (pv 0) (pa_cons (pe_ix (ix_k (K := K) rfl) (pv 1) pe_int (fun _ _ => rfl)) pa_nil))))
    (pss_cons (ps_set (i := 4) sc_parts.nd rfl (Or.inl rfl) (pe_call G_core_concept (hr.mono (by omega)) rfl m_core_concept k_core_concept b_core_concept .nil pass0 (pa_cons (pv 0) (pa_cons (pe_ix (ix_k (K := K) rfl) (pv 1) pe_int (fun _ _ => rfl)) pa_nil))))
    (pss_one (ps_ret (pe_tup (pa_cons (pe_tup (pa_cons pe_str (pa_cons (pv 3) (pa_cons (pv 4) pa_nil)))) (pa_cons (pe_tup (pa_cons pe_str (pa_cons (pv 4) (pa_cons (pv 3) pa_nil)))) pa_nil))))))) pss_nil)
    (pss_cons (ps_if (pt_cmpR op_eq (pv 2) pe_str (nomark _)) (pss_cons (ps_set (i := 5) sc_parts.nd rfl (Or.inl rfl) (pe_tup (pa_cons pe_str (pa_cons (pe_call G_core_concept (hr.mono (by omega)) rfl m_core_concept k_core_concept b_core_concept .nil pass0 (pa_cons (pv 0) (pa_cons (pe_ix (ix_k (K := K) rfl) (pv 1) pe_int (fun _ _ => rfl)) pa_nil))) (pa_cons (pe_call G_core_concept (hr.mono (by omega)) rfl m_core_concept k_core_concept b_core_concept .nil pass0 (pa_cons (pv 0) (pa_cons (pe_ix (ix_k (K := K) rfl) (pv 1) pe_int (fun _ _ => rfl)) pa_nil))) pa_nil)))))
    (pss_one (ps_ret (pe_tup (pa_cons (pe_tup (pa_cons pe_str (pa_cons (pv 5) (pa_cons (pe_tup (pa_cons pe_str (pa_cons (pe_glob (v := .ref aA) rfl T.mANY rfl) pa_nil))) pa_nil)))) pa_nil))))) pss_nil)
    (pss_cons (ps_if (pt_cmpR (op_in_k (K := K) rfl hu) (pv 2) (pe_tup (pa_cons pe_str (pa_cons pe_str pa_nil))) (by rfl)) (pss_cons (ps_set (i := 6) sc_parts.nd rfl (Or.inl rfl) (pe_call G_core_role (hr.mono (by omega)) rfl m_core_role k_core_role b_core_role .nil pass0 (pa_cons (pv 0) (pa_cons (pe_ix (ix_k (K := K) rfl) (pv 1) pe_int (fun _ _ => rfl)) pa_nil))))
    (pss_cons (ps_if (pt_cmpR op_eq (pv 2) pe_str (nomark _)) (pss_one (ps_set (i := 6) sc_parts.nd rfl (Or.inl rfl) (pe_call G_inverse_of (hr.mono (by omega)) rfl m_inverse_of k_inverse_of b_inverse_of .nil pass0 (pa_cons (pv 6) pa_nil)))) pss_nil)
    (pss_one (ps_ret (pe_tup (pa_cons (pe_tup (pa_cons pe_str (pa_cons (pe_tup (pa_cons pe_str (pa_cons (pv 6) (pa_cons (pe_glob (v := .ref aA) rfl T.mANY rfl) pa_nil)))) (pa_cons (pe_call G_core_concept (hr.mono (by omega)) rfl m_core_concept k_core_concept b_core_concept .nil pass0 (pa_cons (pv 0) (pa_cons (pe_ix (ix_k (K := K) rfl) (pv 1) pe_int (fun _ _ => rfl)) pa_nil))) pa_nil)))) pa_nil)))))) pss_nil)
    (pss_cons (ps_if (pt_cmpR op_eq (pv 2) pe_str (nomark _)) (pss_one (ps_ret (pe_tup (pa_cons (pe_tup (pa_cons pe_str (pa_cons (pe_call G_core_role (hr.mono (by omega)) rfl m_core_role k_core_role b_core_role .nil pass0 (pa_cons (pv 0) (pa_cons (pe_ix (ix_k (K := K) rfl) (pv 1) pe_int (fun _ _ => rfl)) pa_nil))) (pa_cons (pe_call G_core_role (hr.mono (by omega)) rfl m_core_role k_core_role b_core_role .nil pass0 (pa_cons (pv 0) (pa_cons (pe_ix (ix_k (K := K) rfl) (pv 1) pe_int (fun _ _ => rfl)) pa_nil))) pa_nil)))) pa_nil)))) pss_nil)
    (pss_cons (ps_if (pt_cmpR op_eq (pv 2) pe_str (nomark _)) (pss_cons (ps_set (i := 7) sc_parts.nd rfl (Or.inl rfl) (pe_tix (pe_ix (ix_k (K := K) rfl) (pv 0) pe_int (fun _ _ => rfl)) (pa_cons (pe_ix (ix_k (K := K) rfl) (pv 1) pe_int (fun _ _ => rfl)) pa_nil)))
    (pss_cons (ps_set (i := 8) sc_parts.nd rfl (Or.inl rfl) (pe_tix (pe_ix (ix_k (K := K) rfl) (pv 0) pe_int (fun _ _ => rfl)) (pa_cons (pe_ix (ix_k (K := K) rfl) (pv 1) pe_int (fun _ _ => rfl)) pa_nil)))
    (pss_one (ps_ret (pe_tup (pa_cons (pe_tup (pa_cons pe_str (pa_cons (pe_tup (pa_cons (pv 7) (pa_cons pe_bl pa_nil))) (pa_cons (pe_tup (pa_cons (pv 8) (pa_cons pe_bl pa_nil))) pa_nil)))) (pa_cons (pe_tup (pa_cons pe_str (pa_cons (pe_tup (pa_cons (pv 8) (pa_cons pe_bl pa_nil))) (pa_cons (pe_tup (pa_cons (pv 7) (pa_cons pe_bl pa_nil))) pa_nil)))) pa_nil))))))) pss_nil)
    (pss_one (ps_ret (pe_tup (pa_cons (pe_call G_core_question (hr.mono (by omega)) rfl m_core_question k_core_question b_core_question .nil pass0 (pa_cons (pv 0) (pa_cons (pv 1) pa_nil))) pa_nil)))))))))), ?_⟩
  rintro ⟨g, st⟩ ds Z wh Q ⟨ok, wf, hd, rfl⟩ q
  replace hd : st.depth < n := hd
  cases st with
  | equals c1 c2 =>
    have h1 : c1.depth < n := by have : max c1.depth c2.depth < n := hd; omega
    have h2 : c2.depth < n := by have : max c1.depth c2.depth < n := hd; omega
    refine nx_seq <| nx_asg <| ed_op <| ed_var rfl <| ed_int <| od_ix ⟨_, rfl, ?_⟩
    refine nx_kT rfl (by decide +kernel) ?_
    refine nx_seq <| nx_asg <| ed_call <| ea_cons <| ed_var rfl <| ea_cons <| ed_op <| ed_var rfl <| ed_int <| od_ix ⟨_, rfl, ?_⟩
    refine ea_nil ⟨(g, c1), ⟨ok, wf.1, h1, rfl⟩, fun d hd => ?_⟩
    cases hd
    refine nx_seq <| nx_asg <| ed_call <| ea_cons <| ed_var rfl <| ea_cons <| ed_op <| ed_var rfl <| ed_int <| od_ix ⟨_, rfl, ?_⟩
    refine ea_nil ⟨(g, c2), ⟨ok, wf.2, h2, rfl⟩, fun d hd => ?_⟩
    cases hd
    refine nx_ret q <| ed_tup <| ea_cons <| ed_tup <| ea_cons <| ed_str <| ea_cons <| ed_var rfl <| ea_cons <| ed_var rfl <| ea_nil ⟨sm rfl, ?_⟩
    refine ea_cons <| ed_tup <| ea_cons <| ed_str <| ea_cons <| ed_var rfl <| ea_cons <| ed_var rfl <| ea_nil ⟨sm rfl, ?_⟩
    exact ea_nil ⟨sm rfl, rfl⟩
  | apart c1 c2 =>
    have h1 : c1.depth < n := by have : max c1.depth c2.depth < n := hd; omega
    have h2 : c2.depth < n := by have : max c1.depth c2.depth < n := hd; omega
    refine nx_seq <| nx_asg <| ed_op <| ed_var rfl <| ed_int <| od_ix ⟨_, rfl, ?_⟩
    refine nx_kF rfl (by decide +kernel) <| nx_kT rfl (by decide +kernel) ?_
    refine nx_seq <| nx_asg <| ed_tup <| ea_cons <| ed_str <| ea_cons <| ed_call <| ea_cons <| ed_var rfl <| ea_cons <| ed_op <| ed_var rfl <| ed_int <| od_ix ⟨_, rfl, ?_⟩
    refine ea_nil ⟨(g, c1), ⟨ok, wf.1, h1, rfl⟩, fun d hd => ?_⟩
    cases hd
    refine ea_cons <| ed_call <| ea_cons <| ed_var rfl <| ea_cons <| ed_op <| ed_var rfl <| ed_int <| od_ix ⟨_, rfl, ?_⟩
    refine ea_nil ⟨(g, c2), ⟨ok, wf.2, h2, rfl⟩, fun d hd => ?_⟩
    cases hd
    refine ea_nil ⟨sm rfl, ?_⟩
    refine nx_ret q <| ed_tup <| ea_cons <| ed_tup <| ea_cons <| ed_str <| ea_cons <| ed_var rfl <| ea_cons <| ed_tup <| ea_cons <| ed_str <| ea_cons <| ed_cst T.dANY <| ea_nil ⟨sm rfl, ?_⟩
    exact ea_nil ⟨sm rfl, ea_nil ⟨sm rfl, rfl⟩⟩
  | domain r c1 =>
    refine nx_seq <| nx_asg <| ed_op <| ed_var rfl <| ed_int <| od_ix ⟨_, rfl, ?_⟩
    refine nx_kF rfl (by decide +kernel) <| nx_kF rfl (by decide +kernel) ?_
    refine nx_seq <| nx_if <| eb_inS (ed_var rfl ⟨rfl, ea_cons <| ed_str <| ea_cons <| ed_str <| ea_nil ⟨[_, _], rfl, sm rfl, by decide +kernel, by decide +kernel, fun _ => ?_, fun e => absurd e (by decide +kernel)⟩⟩)
    refine nx_seq <| nx_asg <| ed_call <| ea_cons <| ed_var rfl <| ea_cons <| ed_op <| ed_var rfl <| ed_int <| od_ix ⟨_, rfl, ?_⟩
    refine ea_nil ⟨(g, r), ⟨ok, wf.1, rfl⟩, fun d hd => ?_⟩
    cases hd
    refine nx_kF rfl (by decide +kernel) ?_
    refine nx_ret q <| ed_tup <| ea_cons <| ed_tup <| ea_cons <| ed_str <| ea_cons <| ed_tup <| ea_cons <| ed_str <| ea_cons <| ed_var rfl <| ea_cons <| ed_cst T.dANY <| ea_nil ⟨sm rfl, ?_⟩
    refine ea_cons <| ed_call <| ea_cons <| ed_var rfl <| ea_cons <| ed_op <| ed_var rfl <| ed_int <| od_ix ⟨_, rfl, ?_⟩
    refine ea_nil ⟨(g, c1), ⟨ok, wf.2, hd, rfl⟩, fun d hd => ?_⟩
    cases hd
    exact ea_nil ⟨sm rfl, ea_nil ⟨sm rfl, rfl⟩⟩
  | range r c1 =>
    refine nx_seq <| nx_asg <| ed_op <| ed_var rfl <| ed_int <| od_ix ⟨_, rfl, ?_⟩
    refine nx_kF rfl (by decide +kernel) <| nx_kF rfl (by decide +kernel) ?_
    refine nx_seq <| nx_if <| eb_inS (ed_var rfl ⟨rfl, ea_cons <| ed_str <| ea_cons <| ed_str <| ea_nil ⟨[_, _], rfl, sm rfl, by decide +kernel, by decide +kernel, fun _ => ?_, fun e => absurd e (by decide +kernel)⟩⟩)
    refine nx_seq <| nx_asg <| ed_call <| ea_cons <| ed_var rfl <| ea_cons <| ed_op <| ed_var rfl <| ed_int <| od_ix ⟨_, rfl, ?_⟩
    refine ea_nil ⟨(g, r), ⟨ok, wf.1, rfl⟩, fun d hd => ?_⟩
    cases hd
    refine nx_kT rfl (by decide +kernel) ?_
    refine nx_asg <| ed_call <| ea_cons <| ed_var rfl <| ea_nil ⟨r, rfl, fun d hd => ?_⟩
    cases hd
    refine nx_ret q <| ed_tup <| ea_cons <| ed_tup <| ea_cons <| ed_str <| ea_cons <| ed_tup <| ea_cons <| ed_str <| ea_cons <| ed_var rfl <| ea_cons <| ed_cst T.dANY <| ea_nil ⟨sm rfl, ?_⟩
    refine ea_cons <| ed_call <| ea_cons <| ed_var rfl <| ea_cons <| ed_op <| ed_var rfl <| ed_int <| od_ix ⟨_, rfl, ?_⟩
    refine ea_nil ⟨(g, c1), ⟨ok, wf.2, hd, rfl⟩, fun d hd => ?_⟩
    cases hd
    exact ea_nil ⟨sm rfl, ea_nil ⟨sm rfl, rfl⟩⟩
  | under r s1 =>
    refine nx_seq <| nx_asg <| ed_op <| ed_var rfl <| ed_int <| od_ix ⟨_, rfl, ?_⟩
    refine nx_kF rfl (by decide +kernel) <| nx_kF rfl (by decide +kernel) ?_
    refine nx_seq <| nx_if <| eb_inS (ed_var rfl ⟨rfl, ea_cons <| ed_str <| ea_cons <| ed_str <| ea_nil ⟨[_, _], rfl, sm rfl, by decide +kernel, by decide +kernel, fun e => absurd e (by decide +kernel), fun _ => nx_next ?_⟩⟩)
    refine nx_kT rfl (by decide +kernel) ?_
    refine nx_ret q <| ed_tup <| ea_cons <| ed_tup <| ea_cons <| ed_str <| ea_cons <| ed_call <| ea_cons <| ed_var rfl <| ea_cons <| ed_op <| ed_var rfl <| ed_int <| od_ix ⟨_, rfl, ?_⟩
    refine ea_nil ⟨(g, r), ⟨ok, wf.1, rfl⟩, fun d hd => ?_⟩
    cases hd
    refine ea_cons <| ed_call <| ea_cons <| ed_var rfl <| ea_cons <| ed_op <| ed_var rfl <| ed_int <| od_ix ⟨_, rfl, ?_⟩
    refine ea_nil ⟨(g, s1), ⟨ok, wf.2, rfl⟩, fun d hd => ?_⟩
    cases hd
    exact ea_nil ⟨sm rfl, ea_nil ⟨sm rfl, rfl⟩⟩
  | inverse r s1 =>
    refine nx_seq <| nx_asg <| ed_op <| ed_var rfl <| ed_int <| od_ix ⟨_, rfl, ?_⟩
    refine nx_kF rfl (by decide +kernel) <| nx_kF rfl (by decide +kernel) ?_
    refine nx_seq <| nx_if <| eb_inS (ed_var rfl ⟨rfl, ea_cons <| ed_str <| ea_cons <| ed_str <| ea_nil ⟨[_, _], rfl, sm rfl, by decide +kernel, by decide +kernel, fun e => absurd e (by decide +kernel), fun _ => nx_next ?_⟩⟩)
    refine nx_kF rfl (by decide +kernel) <| nx_kT rfl (by decide +kernel) ?_
    refine nx_seq <| nx_asg <| ed_tix <| ed_op <| ed_var rfl <| ed_int <| od_ix ⟨_, rfl, _, rfl, ?_⟩
    refine ed_op <| ed_var rfl <| ed_int <| od_ix ⟨_, rfl, nmAt g.N.rs r, r, rfl, tk_get ok.lr wf.1, fun m hm => tk_ix ok.rs ok.lr wf.1 hm, ?_⟩
    refine nx_seq <| nx_asg <| ed_tix <| ed_op <| ed_var rfl <| ed_int <| od_ix ⟨_, rfl, _, rfl, ?_⟩
    refine ed_op <| ed_var rfl <| ed_int <| od_ix ⟨_, rfl, nmAt g.N.rs s1, s1, rfl, tk_get ok.lr wf.2, fun m hm => tk_ix ok.rs ok.lr wf.2 hm, ?_⟩
    refine nx_ret q <| ed_tup <| ea_cons <| ed_tup <| ea_cons <| ed_str <| ea_cons <| ed_tup <| ea_cons <| ed_var rfl <| ea_cons <| ed_bl <| ea_nil ⟨sm rfl, ?_⟩
    refine ea_cons <| ed_tup <| ea_cons <| ed_var rfl <| ea_cons <| ed_bl <| ea_nil ⟨sm rfl, ea_nil ⟨sm rfl, ?_⟩⟩
    refine ea_cons <| ed_tup <| ea_cons <| ed_str <| ea_cons <| ed_tup <| ea_cons <| ed_var rfl <| ea_cons <| ed_bl <| ea_nil ⟨sm rfl, ?_⟩
    refine ea_cons <| ed_tup <| ea_cons <| ed_var rfl <| ea_cons <| ed_bl <| ea_nil ⟨sm rfl, ea_nil ⟨sm rfl, ?_⟩⟩
    exact ea_nil ⟨sm rfl, rfl⟩
  | qu qq =>
    have fin : ∀ (k : Str) , Nx K ⟨Z, [], wh⟩ [.dat (told g), .dat (dQ g.N qq), .dat (.str k), .no, .no, .no, .no, .no, .no] H (tRet (tTup (tCons (tCall (spP K (preQu n) postQu) [] E0 (tCons (tVar 0) (tCons (tVar 1) tNil))) tNil)) { nx := fun _ H' => Q .non H', rt := Q }) := fun k => by
      refine nx_ret q <| ed_tup <| ea_cons <| ed_call <| ea_cons <| ed_var rfl <| ea_cons <| ed_var rfl <| ea_nil ⟨(g, qq), ⟨ok, wf, hd, rfl⟩, fun d hd => ?_⟩
      cases hd
      exact ea_nil ⟨sm rfl, rfl⟩
    cases qq with
    | never =>
      refine nx_seq <| nx_asg <| ed_op <| ed_var rfl <| ed_int <| od_ix ⟨_, rfl, ?_⟩
      refine nx_kF rfl (by decide +kernel) <| nx_kF rfl (by decide +kernel) ?_
      refine nx_seq <| nx_if <| eb_inS (ed_var rfl ⟨rfl, ea_cons <| ed_str <| ea_cons <| ed_str <| ea_nil ⟨[_, _], rfl, sm rfl, by decide +kernel, by decide +kernel, fun e => absurd e (by decide +kernel), fun _ => nx_next ?_⟩⟩)
      refine nx_kF rfl (by decide +kernel) <| nx_kF rfl (by decide +kernel) ?_
      exact fin _
    | below c1 c2 =>
      refine nx_seq <| nx_asg <| ed_op <| ed_var rfl <| ed_int <| od_ix ⟨_, rfl, ?_⟩
      refine nx_kF rfl (by decide +kernel) <| nx_kF rfl (by decide +kernel) ?_
      refine nx_seq <| nx_if <| eb_inS (ed_var rfl ⟨rfl, ea_cons <| ed_str <| ea_cons <| ed_str <| ea_nil ⟨[_, _], rfl, sm rfl, by decide +kernel, by decide +kernel, fun e => absurd e (by decide +kernel), fun _ => nx_next ?_⟩⟩)
      refine nx_kF rfl (by decide +kernel) <| nx_kF rfl (by decide +kernel) ?_
      exact fin _
    | is a c1 =>
      refine nx_seq <| nx_asg <| ed_op <| ed_var rfl <| ed_int <| od_ix ⟨_, rfl, ?_⟩
      refine nx_kF rfl (by decide +kernel) <| nx_kF rfl (by decide +kernel) ?_
      refine nx_seq <| nx_if <| eb_inS (ed_var rfl ⟨rfl, ea_cons <| ed_str <| ea_cons <| ed_str <| ea_nil ⟨[_, _], rfl, sm rfl, by decide +kernel, by decide +kernel, fun e => absurd e (by decide +kernel), fun _ => nx_next ?_⟩⟩)
      refine nx_kF rfl (by decide +kernel) <| nx_kF rfl (by decide +kernel) ?_
      exact fin _
    | has a m b =>
      refine nx_seq <| nx_asg <| ed_op <| ed_var rfl <| ed_int <| od_ix ⟨_, rfl, ?_⟩
      refine nx_kF rfl (by decide +kernel) <| nx_kF rfl (by decide +kernel) ?_
      refine nx_seq <| nx_if <| eb_inS (ed_var rfl ⟨rfl, ea_cons <| ed_str <| ea_cons <| ed_str <| ea_nil ⟨[_, _], rfl, sm rfl, by decide +kernel, by decide +kernel, fun e => absurd e (by decide +kernel), fun _ => nx_next ?_⟩⟩)
      refine nx_kF rfl (by decide +kernel) <| nx_kF rfl (by decide +kernel) ?_
      exact fin _
end
end Kw

/-! comprehensions and loops over a known list; members -/
namespace Kw
open PySem PySem.Spec PyProof.Rows L2 Evl
section
variable {α : Type}
def fl (l : List α) (p : α → Bool) (f : α → Da) (k : Nat) : List Da := ((l.take k).filter p).map f
theorem fl_yes {l : List α} {p : α → Bool} {f : α → Da} {k : Nat} {x : α} (hx : l[k]? = some x) (h : p x = true) : fl l p f (k + 1) = fl l p f k ++ [f x] := by
  unfold fl
  rw [List.take_add_one, hx, Option.toList_some, List.filter_append, List.map_append, List.filter_cons, if_pos h]
  rfl
theorem fl_no {l : List α} {p : α → Bool} {f : α → Da} {k : Nat} {x : α} (hx : l[k]? = some x) (h : p x = false) : fl l p f (k + 1) = fl l p f k := by
  unfold fl
  rw [List.take_add_one, hx, Option.toList_some, List.filter_append, List.filter_cons, if_neg (by rw [h]; decide)]
  simp
theorem fl_all {l : List α} {p : α → Bool} {f : α → Da} : fl l p f l.length = (l.filter p).map f := by
  unfold fl
  rw [List.take_length]
theorem fl_len {l : List α} {p : α → Bool} {f : α → Da} {k : Nat} : (fl l p f k).length ≤ l.length := by
  unfold fl
  rw [List.length_map]
  exact Nat.le_trans (List.length_filter_le _ _) (by rw [List.length_take]; omega)
theorem map_get {l : List α} {g : α → Da} {i : Nat} {d : Da} (h : (l.map g)[i]? = some d) : ∃ x, l[i]? = some x ∧ d = g x ∧ x ∈ l := by
  rw [List.getElem?_map] at h
  cases e : l[i]? with
  | none => rw [e] at h; cases h
  | some x =>
    rw [e] at h
    cases h
    exact ⟨x, rfl, rfl, List.mem_of_getElem? e⟩
variable {K : PySem.W.Frag} {c : Cn} {δ δ0 : List SD} {Hb : Hp} {D : Ends} {t u tb : TS} {te : TE} {tas : TA} {tt : TT} {P : Da → Prop} {wi : TI} {j : Nat}
theorem Ei.mono {P P' : List Da → Prop} (h : Ei K c δ Hb wi P) (q : ∀ src, P src → P' src) : Ei K c δ Hb wi P' := fun σ H r ok s R k => h σ H r ok s R fun J src w H2 r2 ok2 e p wk => k J src w H2 r2 ok2 e (q src p) wk
theorem Eb.mono {P P' : Bool → Prop} (h : Eb K c δ Hb tt P) (q : ∀ b, P b → P' b) : Eb K c δ Hb tt P' := fun σ H r ok s Q k => h σ H r ok s Q fun b H2 r2 ok2 p => k b H2 r2 ok2 (q b p)
theorem nx_sa {i : Nat} (h : Ed K c δ Hb te fun d => Nx K c (δ.set i (.dat d)) Hb (u D)) : Nx K c δ Hb (tSeq (tAsg te (gName i)) u D) := nx_seq (nx_asg h)
theorem nx_sif (h : Eb K c δ Hb tt fun b => (b = true → Nx K c δ Hb (t { D with nx := u D })) ∧ (b = false → Nx K c δ Hb (tb { D with nx := u D }))) : Nx K c δ Hb (tSeq (tIfS tt t tb) u D) := nx_seq (nx_if h)
/-- an if without else in a block -/
theorem nx_si (h : Eb K c δ Hb tt fun b => (b = true → Nx K c δ Hb (t { D with nx := u D })) ∧ (b = false → Nx K c δ Hb (u D))) : Nx K c δ Hb (tSeq (tIfS tt t tNext) u D) := nx_seq (nx_if (h.mono fun b q => ⟨q.1, fun e => nx_next (q.2 e)⟩))
/-- an if without else at a block's end -/
theorem nx_i1 (h : Eb K c δ Hb tt fun b => (b = true → Nx K c δ Hb (t D)) ∧ (b = false → Nx K c δ Hb D.nx)) : Nx K c δ Hb (tIfS tt t tNext D) := nx_if (h.mono fun b q => ⟨q.1, fun e => nx_next (q.2 e)⟩)
theorem nx_sml {i : Nat} (h : ∀ a, a ∉ c.Z → Hb a = none → Nx K (c.hide a) (δ.set i (.ml a [])) Hb (u D)) : Nx K c δ Hb (tSeq (tAsg (tLst tNil) (gName i)) u D) := nx_seq (nx_newml h)
theorem nx_sapp {l : Nat} {a : Addr} {ds : List Da} (hi : δ[l]? = some (.ml a ds)) (hb : Hb a = none) (hz : ds.length < 100000) (na : NoAl a (δ.set l .no)) (h : Ed K c δ Hb te fun d => Nx K c (δ.set l (.ml a (ds ++ [d]))) Hb (u D)) :
    Nx K c δ Hb (tSeq (tDrop (tBM K "list" rAppend (tVar l) (tCons te tNil))) u D) := nx_seq (nx_app hi hb hz na h)
/-- a comprehension over a known list: those of which p holds, by f -/
theorem ed_lcF (l : List α) (g : α → Da) (p : α → Bool) (f : α → Da) (hz : l.length ≤ 50000) (hsrc : Ei K c δ Hb wi fun src => src = l.map g)
    (ht : ∀ x, x ∈ l → ∀ a w, Ex c.w w → a ∉ c.Z → Hb a = none → Eb K ((c.hide a).wt w) (δ.set j (.dat (g x))) Hb tt fun b => b = p x ∧ (p x = true → Ed K ((c.hide a).wt w) (δ.set j (.dat (g x))) Hb te fun e => e = f x))
    (hP : P (.lst ((l.filter p).map f))) : Ed K c δ Hb (tLc wi (gName j) tt te [j]) P := by
  refine ed_lc (hsrc.mono fun src e => ?_)
  subst e
  refine ⟨fun k acc => acc = fl l p f k, by rw [List.length_map]; exact hz, rfl, fun i d acc a w ew ha hb hd hinv => ?_, fun acc hinv => ?_⟩
  · obtain ⟨x, hx, rfl, hm⟩ := map_get hd
    refine (ht x hm a w ew ha hb).mono fun b hbb => ?_
    obtain ⟨e, he⟩ := hbb
    subst hinv
    refine ⟨fun h => ?_, fun h => ?_⟩
    · exact (he (e.symm.trans h)).mono fun e' h' => by rw [h']; exact (fl_yes hx (e.symm.trans h)).symm
    · exact (fl_no hx (e.symm.trans h)).symm
  · rw [List.length_map] at hinv
    rw [hinv, fl_all]
    exact hP
/-- a loop that goes on while p holds -/
theorem nx_forP (l : List α) (g : α → Da) (p : α → Bool) (le : SLe δ δ0) (hsrc : Ei K c δ Hb wi fun src => src = l.map g)
    (body : ∀ x, x ∈ l → ∀ w, Ex c.w w → ∀ N : L2.St → Hp → Prop, (∀ δ', SLe δ' δ0 → p x = true → Nx K (c.wt w) δ' Hb N) → Nx K (c.wt w) (δ0.set j (.dat (g x))) Hb (tb { D with nx := N, ct := N, bk := D.nx }))
    (fin : (∀ x, x ∈ l → p x = true) → Nx K c δ0 Hb D.nx) : Nx K c δ Hb (tFor wi (gName j) tb D) := by
  have key : Nx K c δ0 Hb (tFor wi (gName j) tb D) → Nx K c δ Hb (tFor wi (gName j) tb D) := fun h => nx_le le h
  refine fun σ H r ok s => ?_
  refine hsrc σ H r ok s _ fun J src w H1 r1 ok1 ew e wk => ?_
  subst e
  refine for_it (wk_walk wk) (fun i => Tn K (c.wt w) Hb (fun δ' => δ' = δ0 ∧ ∀ m, m < i → ∀ x, l[m]? = some x → p x = true)) ⟨δ0, ⟨rfl, fun m hm => absurd hm (Nat.not_lt_zero _)⟩, r.trans r1, ok1, ((s.mono r1 ok).le le).wt⟩ (fun i σ H _ q => ?_) (fun i x σ H H' hi q y => ?_) (fun σ H q => ?_)
  · obtain ⟨_, _, _, o, _⟩ := q
    exact o.kn.trans (hd_ex _ _)
  · obtain ⟨rfl, d, hd', dx⟩ := y
    obtain ⟨δi, ⟨rfl, hall⟩, ri, oi, si⟩ := q
    obtain ⟨x', hx, rfl, hm⟩ := map_get hd'
    refine body x' hm w ew _ (fun δ' l' hp => ?_) _ H' ri oi (si.set j ⟨x, rfl, dx.to oi.kn⟩)
    refine nx_turn l' ⟨rfl, fun m hm' z hz => ?_⟩
    by_cases e : m = i
    · subst e
      rw [hx] at hz
      cases hz
      exact hp
    · exact hall m (by omega) z hz
  · obtain ⟨δn, ⟨rfl, hall⟩, rn, on, sn⟩ := q
    refine fin (fun x hx => ?_) σ H rn (on.unwt ew) sn.unwt
    obtain ⟨m, hm, e⟩ := List.mem_iff_getElem.mp hx
    exact hall m (by rw [List.length_map]; exact hm) x (by rw [List.getElem?_eq_getElem hm, e])
/-- a loop that appends f x where p holds -/
theorem nx_forM (l : List α) (g : α → Da) (p : α → Bool) (f : α → Da) {s : Nat} {a : Addr} (hz : l.length ≤ 50000) (le : SLe δ (δ0.set s (.ml a []))) (hsrc : Ei K c δ Hb wi fun src => src = l.map g)
    (body : ∀ x, x ∈ l → ∀ w acc, acc.length ≤ 50000 → Ex c.w w → ∀ N : L2.St → Hp → Prop, (∀ δ', SLe δ' (δ0.set s (.ml a (if p x = true then acc ++ [f x] else acc))) → Nx K (c.wt w) δ' Hb N) → Nx K (c.wt w) ((δ0.set s (.ml a acc)).set j (.dat (g x))) Hb (tb { D with nx := N, ct := N, bk := D.nx }))
    (fin : Nx K c (δ0.set s (.ml a ((l.filter p).map f))) Hb D.nx) : Nx K c δ Hb (tFor wi (gName j) tb D) := by
  refine fun σ H r ok s' => ?_
  refine hsrc σ H r ok s' _ fun J src w H1 r1 ok1 ew e wk => ?_
  subst e
  refine for_it (wk_walk wk) (fun i => Tn K (c.wt w) Hb (fun δ' => δ' = δ0.set s (.ml a (fl l p f i)))) ⟨_, rfl, r.trans r1, ok1, ((s'.mono r1 ok).le le).wt⟩ (fun i σ H _ q => ?_) (fun i x σ H H' hi q y => ?_) (fun σ H q => ?_)
  · obtain ⟨_, _, _, o, _⟩ := q
    exact o.kn.trans (hd_ex _ _)
  · obtain ⟨rfl, d, hd', dx⟩ := y
    obtain ⟨δi, rfl, ri, oi, si⟩ := q
    obtain ⟨x', hx, rfl, hm⟩ := map_get hd'
    refine body x' hm w _ (Nat.le_trans fl_len hz) ew _ (fun δ' l' => ?_) _ H' ri oi (si.set j ⟨x, rfl, dx.to oi.kn⟩)
    refine nx_turn l' ?_
    cases e : p x' with
    | true => rw [if_pos rfl, fl_yes hx e]
    | false => rw [if_neg Bool.false_ne_true, fl_no hx e]
  · obtain ⟨δn, rfl, rn, on, sn⟩ := q
    rw [List.length_map, fl_all] at sn
    exact fin σ H rn (on.unwt ew) sn.unwt
theorem nx_sfP (l : List α) (g : α → Da) (p : α → Bool) (le : SLe δ δ0) (hsrc : Ei K c δ Hb wi fun src => src = l.map g)
    (body : ∀ x, x ∈ l → ∀ w, Ex c.w w → ∀ N : L2.St → Hp → Prop, (∀ δ', SLe δ' δ0 → p x = true → Nx K (c.wt w) δ' Hb N) → Nx K (c.wt w) (δ0.set j (.dat (g x))) Hb (tb { D with nx := N, ct := N, bk := u D }))
    (fin : (∀ x, x ∈ l → p x = true) → Nx K c δ0 Hb (u D)) : Nx K c δ Hb (tSeq (tFor wi (gName j) tb) u D) := nx_seq (nx_forP l g p le hsrc body fin)
theorem nx_sfM (l : List α) (g : α → Da) (p : α → Bool) (f : α → Da) {s : Nat} {a : Addr} (hz : l.length ≤ 50000) (le : SLe δ (δ0.set s (.ml a []))) (hsrc : Ei K c δ Hb wi fun src => src = l.map g)
    (body : ∀ x, x ∈ l → ∀ w acc, acc.length ≤ 50000 → Ex c.w w → ∀ N : L2.St → Hp → Prop, (∀ δ', SLe δ' (δ0.set s (.ml a (if p x = true then acc ++ [f x] else acc))) → Nx K (c.wt w) δ' Hb N) → Nx K (c.wt w) ((δ0.set s (.ml a acc)).set j (.dat (g x))) Hb (tb { D with nx := N, ct := N, bk := u D }))
    (fin : Nx K c (δ0.set s (.ml a ((l.filter p).map f))) Hb (u D)) : Nx K c δ Hb (tSeq (tFor wi (gName j) tb) u D) := nx_seq (nx_forM l g p f hz le hsrc body fin)
end
section
variable {PR : Program} {w : World} {K : PySem.W.Frag} {mg : Str → Option Value} {base : Heap} {aA : Addr}
theorem things_get {M : Mo} {k : Nat} (h : k < M.n) : ixD (.tup (M.things.map fun t => .tup (t.map dN))) (dN k) = some (.tup ((M.things.getD k []).map dN)) := by
  show (M.things.map fun t => Da.tup (t.map dN))[k]? = _
  rw [List.getElem?_map, List.getElem?_eq_getElem h, List.getD_eq_getElem?_getD, List.getElem?_eq_getElem h]
  rfl
theorem mem_has {M : Mo} {c : CC} {k : Nat} (h : k < M.n) : (mem M c).contains k = sat M c k := by
  unfold mem
  rw [Bool.eq_iff_iff, List.contains_iff_mem, List.mem_filter, List.mem_range]
  exact ⟨fun q => q.2, fun q => ⟨h, q⟩⟩
theorem mem_lt {M : Mo} {c : CC} {k : Nat} (h : k ∈ mem M c) : k < M.n := List.mem_range.mp (List.mem_filter.mp h).1
theorem mem_len (M : Mo) (c : CC) : (mem M c).length ≤ M.n := Nat.le_trans (List.length_filter_le _ _) (by rw [List.length_range]; exact Nat.le_refl _)
theorem rng_len {M : Mo} (h : M.n ≤ 100) : (List.range M.n).length ≤ 50000 := by rw [List.length_range]; omega
/-! ### members -/
def preMe (n : Nat) (p : Mo × CC) (ds : List Da) : Prop := p.1.n ≤ 100 ∧ p.2.depth < n ∧ ds = [dM p.1, dC p.2]
def postMe (p : Mo × CC) (d : Da) : Prop := d = .tup ((mem p.1 p.2).map dN)
theorem cl_members (T : Txt K mg aA) : ∀ n : Nat, Cl PR w K mg base (n + 1) "members" ["model", "concept"] (spP K (preMe n) postMe)
  | 0 => cl_none T.d_members (fun _ _ _ _ _ _ us hl => match us, hl with | [_, _], _ => rfl) fun p ds h => absurd h.2.1 (Nat.not_lt_zero _)
  | n + 1 => by
    obtain ⟨f1, fd1, G_members, m_members, k_members, b_members⟩ := cl_members T n
    obtain ⟨f2, fd2, G_is_related, m_is_related, k_is_related, b_is_related⟩ := cl_is_related (PR := PR) (w := w) (base := base) T
    refine okP T.d_members sc_members (fun p ds h => by rw [h.2.2]; rfl) (fun _ _ _ _ _ _ us hl => match us, hl with | [_, _], _ => rfl) (fun f cdv A outer s H E hr => ?_)
    have hu := hu65 hr
    refine ⟨_, (pss_cons (ps_set (i := 2) sc_members.nd rfl (Or.inl rfl) (pe_callTy cr_range1 rfl T.mrange (by decide +kernel) (pa_cons (pe_callB call_len_seq rfl T.mlen PySem.boot_len (pa_cons (pe_ix (ix_k (K := K) rfl) (pv 0) pe_int (fun _ _ => rfl)) pa_nil)) pa_nil)))
    (pss_cons (ps_set (i := 3) sc_members.nd rfl (Or.inl rfl) (pe_ix (ix_k (K := K) rfl) (pv 1) pe_int (fun _ _ => rfl)))
    (pss_cons (ps_if (pt_cmpR op_eq (pv 3) pe_str (nomark _)) (pss_one (ps_ret (pe_callTy call_tuple_of rfl T.mtuple (by decide +kernel) (pa_cons (pe_callTy (call_list_rng rfl) rfl T.mlist (by decide +kernel) (pa_cons (pv 2) pa_nil)) pa_nil)))) pss_nil)
    (pss_cons (ps_if (pt_cmpR op_eq (pv 3) pe_str (nomark _)) (pss_one (ps_ret (pe_callTy call_tuple_of rfl T.mtuple (by decide +kernel) (pa_cons (pe_lc (own := [("thing", 6)]) (g := gName 6) rfl sc_members.nd (pi_rng (pv 2)) (blkOk_by (own := [("thing", 6)]) (N := n_members) (sc := defScope s_members) (by decide +kernel)) (fun _ _ _ _ _ => pg_name (i := 6) sc_members.nd rfl (Or.inl rfl)) (fun _ _ _ _ _ => (pts_one (pt_cmpR (op_in_k (K := K) rfl hu) (pe_ix (ix_k (K := K) rfl) (pv 1) pe_int (fun _ _ => rfl)) (pe_ix (ix_k (K := K) rfl) (pe_ix (ix_k (K := K) rfl) (pv 0) pe_int (fun _ _ => rfl)) (pv 6) (fun _ _ => rfl)) (by rfl)))) (fun _ _ _ _ _ => (pv 6))) pa_nil)))) pss_nil)
    (pss_cons (ps_if (pt_cmpR op_eq (pv 3) pe_str (nomark _)) (pss_cons (ps_set (i := 4) sc_members.nd rfl (Or.inr rfl) (pe_call G_members (hr.mono (by omega)) rfl m_members k_members b_members .nil pass0 (pa_cons (pv 0) (pa_cons (pe_ix (ix_k (K := K) rfl) (pv 1) pe_int (fun _ _ => rfl)) pa_nil))))
    (pss_one (ps_ret (pe_callTy call_tuple_of rfl T.mtuple (by decide +kernel) (pa_cons (pe_lc (own := [("thing", 6)]) (g := gName 6) rfl sc_members.nd (pi_rng (pv 2)) (blkOk_by (own := [("thing", 6)]) (N := n_members) (sc := defScope s_members) (by decide +kernel)) (fun _ _ _ _ _ => pg_name (i := 6) sc_members.nd rfl (Or.inl rfl)) (fun _ _ _ _ _ => (pts_one (pt_cmpR (op_nin_k (K := K) rfl hu) (pv 6) (pv 4) (by rfl)))) (fun _ _ _ _ _ => (pv 6))) pa_nil))))) pss_nil)
    (pss_cons (ps_if (pt_cmpR op_eq (pv 3) pe_str (nomark _)) (pss_cons (ps_set (i := 4) sc_members.nd rfl (Or.inr rfl) (pe_call G_members (hr.mono (by omega)) rfl m_members k_members b_members .nil pass0 (pa_cons (pv 0) (pa_cons (pe_ix (ix_k (K := K) rfl) (pv 1) pe_int (fun _ _ => rfl)) pa_nil))))
    (pss_one (ps_ret (pe_callTy call_tuple_of rfl T.mtuple (by decide +kernel) (pa_cons (pe_lc (own := [("thing", 6)]) (g := gName 6) rfl sc_members.nd (pi_tup (pe_call G_members (hr.mono (by omega)) rfl m_members k_members b_members .nil pass0 (pa_cons (pv 0) (pa_cons (pe_ix (ix_k (K := K) rfl) (pv 1) pe_int (fun _ _ => rfl)) pa_nil)))) (blkOk_by (own := [("thing", 6)]) (N := n_members) (sc := defScope s_members) (by decide +kernel)) (fun _ _ _ _ _ => pg_name (i := 6) sc_members.nd rfl (Or.inl rfl)) (fun _ _ _ _ _ => (pts_one (pt_cmpR (op_in_k (K := K) rfl hu) (pv 6) (pv 4) (by rfl)))) (fun _ _ _ _ _ => (pv 6))) pa_nil))))) pss_nil)
    (pss_cons (ps_set (i := 4) sc_members.nd rfl (Or.inr rfl) (pe_call G_members (hr.mono (by omega)) rfl m_members k_members b_members .nil pass0 (pa_cons (pv 0) (pa_cons (pe_ix (ix_k (K := K) rfl) (pv 1) pe_int (fun _ _ => rfl)) pa_nil))))
    (pss_cons (ps_set (i := 5) sc_members.nd rfl (Or.inl rfl) (pe_lst pa_nil))
    (pss_cons (ps_for PassesOwn.never rfl (pi_rng (pv 2)) (pg_name (i := 6) sc_members.nd rfl (Or.inr rfl)) (pss_one (ps_if (pt_val (pe_callB (cr_any rfl) rfl T.many (by decide +kernel) (pa_cons (pe_lc (own := [("other", 7)]) (g := gName 7) (tt := tYes) rfl sc_members.nd (pi_tup (pv 4)) (blkOk_by (own := [("other", 7)]) (N := n_members) (sc := defScope s_members) (by decide +kernel)) (fun _ _ _ _ _ => pg_name (i := 7) sc_members.nd rfl (Or.inl rfl)) (fun _ _ _ _ _ => pts_nil) (fun _ _ _ _ _ => (pe_call G_is_related (hr.mono (by omega)) rfl m_is_related k_is_related b_is_related .nil pass0 (pa_cons (pv 0) (pa_cons (pe_ix (ix_k (K := K) rfl) (pv 1) pe_int (fun _ _ => rfl)) (pa_cons (pv 6) (pa_cons (pv 7) pa_nil))))))) pa_nil))) (pss_one (ps_expr (pe_bm PySem.F.plainAttrs_list PySem.F.slot_list_append PySem.F.type_list_append mt_append (pv 5) (pa_cons (pv 6) pa_nil)))) pss_nil)))
    (pss_one (ps_ret (pe_callTy call_tuple_of rfl T.mtuple (by decide +kernel) (pa_cons (pv 5) pa_nil))))))))))))), ?_⟩
    rintro ⟨M, c⟩ ds Z wh Q ⟨few, hd, rfl⟩ q
    replace hd : c.depth < n + 1 := hd
    replace few : M.n ≤ 100 := few
    have fw : M.n ≤ 100000 := by omega
    cases c with
    | any =>
      refine nx_sa <| ed_cb <| ea_cons <| ed_cb <| ea_cons <| ed_op <| ed_var rfl <| ed_int <| od_ix ⟨_, rfl, ?_⟩
      refine ea_nil <| cb_len ⟨_, .inr rfl, ?_⟩
      rw [List.length_map]
      refine ea_nil <| cb_range1 ⟨_, rfl, ?_⟩
      refine nx_sa <| ed_op <| ed_var rfl <| ed_int <| od_ix ⟨_, rfl, ?_⟩
      refine nx_kT rfl (by decide +kernel) ?_
      refine nx_ret q <| ed_cb <| ea_cons <| ed_cb <| ea_cons <| ed_var rfl <| ea_nil <| cb_list_rng ⟨_, rfl, fw, ?_⟩
      refine ea_nil <| cb_tuple ⟨_, .inl rfl, ?_⟩
      have e : mem M .any = List.range M.n := List.filter_eq_self.mpr fun _ _ => rfl
      show Da.tup (upto M.n) = Da.tup ((mem M .any).map dN)
      rw [e]
      rfl
    | name i =>
      refine nx_sa <| ed_cb <| ea_cons <| ed_cb <| ea_cons <| ed_op <| ed_var rfl <| ed_int <| od_ix ⟨_, rfl, ?_⟩
      refine ea_nil <| cb_len ⟨_, .inr rfl, ?_⟩
      rw [List.length_map]
      refine ea_nil <| cb_range1 ⟨_, rfl, ?_⟩
      refine nx_sa <| ed_op <| ed_var rfl <| ed_int <| od_ix ⟨_, rfl, ?_⟩
      refine nx_kF rfl (by decide +kernel) <| nx_kT rfl (by decide +kernel) ?_
      refine nx_ret q ?_
      refine ed_cb <| ea_cons ?_
      refine ed_lcF (List.range M.n) dN (sat M (.name i)) dN (rng_len few) (ei_rng <| ed_var rfl ⟨_, rfl, fw, rfl⟩) (fun x hx a w ew ha hb => ?_) (ea_nil <| cb_tuple ⟨_, .inl rfl, rfl⟩)
      have hlt : x < M.n := List.mem_range.mp hx
      refine eb_test <| ed_op <| ed_op <| ed_var rfl <| ed_int <| od_ix ⟨_, rfl, ?_⟩
      refine ed_op <| ed_op <| ed_var rfl <| ed_int <| od_ix ⟨_, rfl, ?_⟩
      refine ed_var rfl <| od_ix ⟨_, things_get hlt, od_inDT ⟨_, .inr rfl, rfl, pl_nats _, _, rfl, ?_, fun _ => ed_var rfl rfl⟩⟩
      rw [if_neg Bool.false_ne_true]
      exact in_nats _ i
    | not c =>
      refine nx_sa <| ed_cb <| ea_cons <| ed_cb <| ea_cons <| ed_op <| ed_var rfl <| ed_int <| od_ix ⟨_, rfl, ?_⟩
      refine ea_nil <| cb_len ⟨_, .inr rfl, ?_⟩
      rw [List.length_map]
      refine ea_nil <| cb_range1 ⟨_, rfl, ?_⟩
      refine nx_sa <| ed_op <| ed_var rfl <| ed_int <| od_ix ⟨_, rfl, ?_⟩
      have h1 : c.depth < n := Nat.lt_of_succ_lt_succ hd
      refine nx_kF rfl (by decide +kernel) <| nx_kF rfl (by decide +kernel) <| nx_kT rfl (by decide +kernel) ?_
      refine nx_sa <| ed_call <| ea_cons <| ed_var rfl <| ea_cons <| ed_op <| ed_var rfl <| ed_int <| od_ix ⟨_, rfl, ?_⟩
      refine ea_nil ⟨(M, c), ⟨few, h1, rfl⟩, fun d hd => ?_⟩
      cases hd
      refine nx_ret q ?_
      refine ed_cb <| ea_cons ?_
      refine ed_lcF (List.range M.n) dN (sat M (.not c)) dN (rng_len few) (ei_rng <| ed_var rfl ⟨_, rfl, fw, rfl⟩) (fun x hx a w ew ha hb => ?_) (ea_nil <| cb_tuple ⟨_, .inl rfl, rfl⟩)
      have hlt : x < M.n := List.mem_range.mp hx
      refine eb_test <| ed_op <| ed_var rfl <| ed_var rfl <| od_inDT ⟨_, .inr rfl, rfl, pl_nats _, _, rfl, ?_, fun _ => ed_var rfl rfl⟩
      rw [if_pos rfl]
      show (!_) = (!sat M c x)
      rw [← mem_has hlt]
      exact congrArg not (in_nats _ x)
    | and c1 c2 =>
      refine nx_sa <| ed_cb <| ea_cons <| ed_cb <| ea_cons <| ed_op <| ed_var rfl <| ed_int <| od_ix ⟨_, rfl, ?_⟩
      refine ea_nil <| cb_len ⟨_, .inr rfl, ?_⟩
      rw [List.length_map]
      refine ea_nil <| cb_range1 ⟨_, rfl, ?_⟩
      refine nx_sa <| ed_op <| ed_var rfl <| ed_int <| od_ix ⟨_, rfl, ?_⟩
      have h1 : c1.depth < n := by have : max c1.depth c2.depth + 1 < n + 1 := hd; omega
      have h2 : c2.depth < n := by have : max c1.depth c2.depth + 1 < n + 1 := hd; omega
      refine nx_kF rfl (by decide +kernel) <| nx_kF rfl (by decide +kernel) <| nx_kF rfl (by decide +kernel) <| nx_kT rfl (by decide +kernel) ?_
      refine nx_sa <| ed_call <| ea_cons <| ed_var rfl <| ea_cons <| ed_op <| ed_var rfl <| ed_int <| od_ix ⟨_, rfl, ?_⟩
      refine ea_nil ⟨(M, c2), ⟨few, h2, rfl⟩, fun d hd => ?_⟩
      cases hd
      refine nx_ret q ?_
      refine ed_cb <| ea_cons ?_
      refine ed_lcF (mem M c1) dN (sat M c2) dN (Nat.le_trans (mem_len M c1) (by omega)) (ei_tup <| ed_call <| ea_cons <| ed_var rfl <| ea_cons <| ed_op <| ed_var rfl <| ed_int <| od_ix ⟨_, rfl, ea_nil ⟨(M, c1), ⟨few, h1, rfl⟩, fun d hd => ⟨_, hd, rfl⟩⟩⟩) (fun x hx a w ew ha hb => ?_) (ea_nil <| cb_tuple ⟨_, .inl rfl, ?_⟩)
      · have hlt : x < M.n := mem_lt hx
        refine eb_test <| ed_op <| ed_var rfl <| ed_var rfl <| od_inDT ⟨_, .inr rfl, rfl, pl_nats _, _, rfl, ?_, fun _ => ed_var rfl rfl⟩
        rw [if_neg Bool.false_ne_true, ← mem_has hlt]
        exact in_nats _ x
      · show Da.tup _ = Da.tup _
        congr 2
        unfold mem
        rw [List.filter_filter]
        congr 1
        funext x
        show _ = (sat M c1 x && sat M c2 x)
        rw [Bool.and_comm]
    | some r c =>
      refine nx_sa <| ed_cb <| ea_cons <| ed_cb <| ea_cons <| ed_op <| ed_var rfl <| ed_int <| od_ix ⟨_, rfl, ?_⟩
      refine ea_nil <| cb_len ⟨_, .inr rfl, ?_⟩
      rw [List.length_map]
      refine ea_nil <| cb_range1 ⟨_, rfl, ?_⟩
      refine nx_sa <| ed_op <| ed_var rfl <| ed_int <| od_ix ⟨_, rfl, ?_⟩
      have h1 : c.depth < n := Nat.lt_of_succ_lt_succ hd
      refine nx_kF rfl (by decide +kernel) <| nx_kF rfl (by decide +kernel) <| nx_kF rfl (by decide +kernel) <| nx_kF rfl (by decide +kernel) ?_
      refine nx_sa <| ed_call <| ea_cons <| ed_var rfl <| ea_cons <| ed_op <| ed_var rfl <| ed_int <| od_ix ⟨_, rfl, ?_⟩
      refine ea_nil ⟨(M, c), ⟨few, h1, rfl⟩, fun d hd => ?_⟩
      cases hd
      refine nx_sml fun a ha hb => ?_
      refine nx_sfM (List.range M.n) dN (sat M (.some r c)) dN (δ0 := [.dat (dM M), .dat (dC (.some r c)), .dat (.rng (M.things.length : Int)), .dat (.str "some"), .dat (.tup ((mem M c).map dN)), .no, .no, .no]) (s := 5) (a := a) (rng_len few) (SLe.refl _) (ei_rng <| ed_var rfl ⟨_, rfl, fw, rfl⟩) (fun x hx w acc hz ew N hN => ?_) ?_
      · have hlt : x < M.n := List.mem_range.mp hx
        refine nx_i1 <| eb_B <| ed_cb <| ea_cons ?_
        refine ed_lcF (mem M c) dN (fun _ => true) (fun y => .bl (rel M r x y)) (Nat.le_trans (mem_len M c) (by omega)) (ei_tup <| ed_var rfl ⟨_, rfl, rfl⟩) (fun y hy a' w' ew' ha' hb' => ?_) ?_
        · refine eb_yes ⟨rfl, fun _ => ?_⟩
          refine ed_call <| ea_cons <| ed_var rfl <| ea_cons <| ed_op <| ed_var rfl <| ed_int <| od_ix ⟨_, rfl, ?_⟩
          exact ea_cons <| ed_var rfl <| ea_cons <| ed_var rfl <| ea_nil ⟨(M, r, x, y), rfl, fun d hd => hd⟩
        · have e : ((mem M c).filter fun _ => true).map (fun y => Da.bl (rel M r x y)) = ((mem M c).map fun y => rel M r x y).map Da.bl := by
            rw [List.filter_eq_self.mpr fun _ _ => rfl, List.map_map]
            rfl
          rw [e]
          have es : ((mem M c).map fun y => rel M r x y).any id = sat M (.some r c) x := by
            rw [List.any_map]
            rfl
          refine ea_nil <| cb_any ⟨_, rfl, _, rfl, ?_⟩
          rw [es]
          refine ⟨fun h => ?_, fun h => ?_⟩
          · refine nx_app (a := a) rfl hb (by omega) ⟨⟩ <| ed_var rfl ?_
            refine hN _ ?_
            rw [if_pos h]
            exact .same <| .same <| .same <| .same <| .same <| .same <| .no <| .same .nil
          · refine hN _ ?_
            rw [if_neg (by rw [h]; decide)]
            exact .same <| .same <| .same <| .same <| .same <| .same <| .no <| .same .nil
      · refine nx_ret q.hide ?_
        exact ed_tupleM (a := a) rfl rfl
end
end Kw

/-! part_fault, axiom_fault, breaks, answers -/
namespace Kw
open PySem PySem.Spec PyProof.Rows L2 Evl
section
variable {α : Type} {K : PySem.W.Frag} {c : Cn} {δ δ0 : List SD} {Hb : Hp} {D : Ends} {t u tb v : TS} {te : TE} {tas : TA} {tt : TT}
theorem nx_xF {i : Nat} {k : Int} {d : Da} {s s' : Str} (hi : δ[i]? = some (.dat d)) (hx : ixD d (.int k) = some (.str s)) (hn : decide (s = s') = false) (h : Nx K c δ Hb (u D)) : Nx K c δ Hb (tSeq (tIfS (tTest (tOp rEq (tOp (rIx K) (tVar i) (tC (.int k))) (tC (.str s')))) t tNext) u D) :=
  nx_si <| eb_test <| ed_op <| ed_op <| ed_var hi <| ed_int <| od_ix ⟨_, hx, ed_str <| od_eq ⟨_, rfl, _, rfl, (fun e => absurd (hn.symm.trans e) Bool.false_ne_true), (fun _ => h)⟩⟩
theorem nx_xT {i : Nat} {k : Int} {d : Da} {s s' : Str} (hi : δ[i]? = some (.dat d)) (hx : ixD d (.int k) = some (.str s)) (hn : decide (s = s') = true) (h : Nx K c δ Hb (t { D with nx := u D })) : Nx K c δ Hb (tSeq (tIfS (tTest (tOp rEq (tOp (rIx K) (tVar i) (tC (.int k))) (tC (.str s')))) t v) u D) :=
  nx_sif <| eb_test <| ed_op <| ed_op <| ed_var hi <| ed_int <| od_ix ⟨_, hx, ed_str <| od_eq ⟨_, rfl, _, rfl, (fun _ => h), (fun e => absurd (e.symm.trans hn) Bool.false_ne_true)⟩⟩
theorem nx_sfor {wi : TI} {j : Nat} {tb : TS} (h : Ei K c δ Hb wi fun src => ∃ inv : Nat → List SD → Prop, inv 0 δ ∧
      (∀ i d δi w, Ex c.w w → src[i]? = some d → inv i δi → Nx K (c.wt w) (δi.set j (.dat d)) Hb (tb { D with nx := Tn K (c.wt w) Hb (inv (i + 1)), ct := Tn K (c.wt w) Hb (inv (i + 1)), bk := u D })) ∧
      (∀ δn, inv src.length δn → Nx K c δn Hb (u D))) : Nx K c δ Hb (tSeq (tFor wi (gName j) tb) u D) := nx_seq (nx_for h)
/-- for i, x in enumerate(a known tuple), as long as p holds -/
theorem nx_sfE (l : List α) (g : α → Da) (p : α → Bool) {j1 j2 : Nat} (le : SLe δ δ0) (hsrc : Ea K c δ Hb tas fun ds => ds = [.tup (l.map g)])
    (body : ∀ (i : Nat) x, x ∈ l → ∀ w, Ex c.w w → ∀ N : L2.St → Hp → Prop, (∀ δ', SLe δ' δ0 → p x = true → Nx K (c.wt w) δ' Hb N) → Nx K (c.wt w) ((δ0.set j1 (.dat (.int (i : Int)))).set j2 (.dat (g x))) Hb (tb { D with nx := N, ct := N, bk := u D }))
    (fin : (∀ x, x ∈ l → p x = true) → Nx K c δ0 Hb (u D)) : Nx K c δ Hb (tSeq (tFor (iEnumT K tas) (gTup K 2 (gCons (gName j1) (gCons (gName j2) gNil))) tb) u D) := by
  refine nx_seq fun σ H r ok s => ?_
  refine hsrc σ H r ok s _ fun vs ds H1 r1 ok1 e dv => ?_
  subst e
  cases dv with
  | cons dv1 dv2 =>
    cases dv2
    cases dv1 with
    | @tup a xs _ hs ha =>
      have hlen : xs.length = l.length := by rw [ha.len, List.length_map]
      refine ⟨a, xs, rfl, ex_t (hd_ex _ _) hs, ?_⟩
      have wk : Walk (IteT K a) l.length (fun H => Ex (hd c.Z H1) H) (fun i H v H' => ∃ T x, v = .ref T ∧ H T = none ∧ H' = upd H T (.tup [.int (i : Nat), x]) ∧ xs[i]? = some x) :=
        ⟨fun i H hi e => ⟨xs, xs[i]'(by rw [hlen]; exact hi), ex_t e hs, by simp⟩, fun H e => ⟨xs, ex_t e hs, hlen⟩, fun i H x H' hi e y => by
          obtain ⟨T, z, h1, h2, h3, h4⟩ := y
          exact ⟨T, z, h1, h2, h3, h4 xs (ex_t e hs)⟩⟩
      have ok1' : Ok (c.wt (hd c.Z H1)) H1 := ok1.wt_self
      refine for_it wk (fun i => Tn K (c.wt (hd c.Z H1)) Hb (fun δ' => δ' = δ0 ∧ ∀ m, m < i → ∀ x, l[m]? = some x → p x = true)) ⟨δ0, ⟨rfl, fun m hm => absurd hm (Nat.not_lt_zero _)⟩, r.trans r1, ok1', ((s.mono r1 ok).le le).wt⟩ (fun i σ H _ q => ?_) (fun i x σ H H' hi q y => ?_) (fun σ H q => ?_)
      · obtain ⟨_, _, _, o, _⟩ := q
        exact o.kn.trans (hd_ex _ _)
      · obtain ⟨T, vz, rfl, hT, rfl, hvz⟩ := y
        obtain ⟨δi, ⟨rfl, hall⟩, ri, oi, si⟩ := q
        obtain ⟨d, hd', dz⟩ := ha.get' hvz
        obtain ⟨x', hx, rfl, hm⟩ := map_get hd'
        refine ⟨T, [.int (i : Nat), vz], rfl, SqT.of upd_same, rfl, .int (i : Nat), [vz], rfl, vz, [], rfl, rfl, ?_⟩
        have rn : Rl c.dl H (upd H T (.tup [.int (i : Nat), vz])) := .new hT
        have on := oi.mono rn
        refine body i x' hm _ ok1.kn _ (fun δ' l' hp => ?_) _ _ (ri.trans rn) on (((si.mono rn oi).set j1 (x := some (V.int (i : Nat))) (e := .dat (.int (i : Int))) ⟨_, rfl, .int _⟩).set j2 ⟨vz, rfl, dz.to on.kn⟩)
        refine nx_turn l' ⟨rfl, fun m hm' z hz => ?_⟩
        by_cases e : m = i
        · subst e
          rw [hx] at hz
          cases hz
          exact hp
        · exact hall m (by omega) z hz
      · obtain ⟨δn, ⟨rfl, hall⟩, rn, on, sn⟩ := q
        refine fin (fun x hx => ?_) σ H rn (on.unwt ok1.kn) sn.unwt
        obtain ⟨m, hm, e⟩ := List.mem_iff_getElem.mp hx
        exact hall m hm x (by rw [List.getElem?_eq_getElem hm, e])
end
section
variable {PR : Program} {w : World} {K : PySem.W.Frag} {mg : Str → Option Value} {base : Heap} {aA : Addr}
theorem ones_get {M : Mo} {a x : Nat} (h : M.ones[a]? = some x) : ixD (.tup (M.ones.map dN)) (.int (a : Int)) = some (dN x) := by
  show (M.ones.map dN)[a]? = _
  rw [List.getElem?_map, h]
  rfl
theorem ones_D {M : Mo} {a x : Nat} (h : M.ones[a]? = some x) : M.ones.getD a 0 = x := by
  rw [List.getD_eq_getElem?_getD, h]
  rfl
/-! ### part_fault -/
def Pt.ind (ni : Nat) : Pt → Prop
  | .is a _ => a < ni
  | .has a _ b => a < ni ∧ b < ni
  | _ => True
def preFa (n : Nat) (p : (Mo × Nat) × Pt) (ds : List Da) : Prop := p.1.1.ok p.1.2 ∧ p.2.depth < n ∧ p.2.ind p.1.2 ∧ ds = [dM p.1.1, dPt p.2]
def postFa (p : (Mo × Nat) × Pt) (d : Da) : Prop := (holds p.1.1 p.2 = true ∧ d = .non) ∨ (holds p.1.1 p.2 = false ∧ ∃ xs, d = .tup xs)
theorem cl_part_fault (T : Txt K mg aA) (n : Nat) : Cl PR w K mg base (n + 2) "part_fault" ["model", "part"] (spP K (preFa n) postFa) := by
  obtain ⟨f1, fd1, G_members, m_members, k_members, b_members⟩ := cl_members (PR := PR) (w := w) (base := base) T n
  obtain ⟨f2, fd2, G_is_related, m_is_related, k_is_related, b_is_related⟩ := cl_is_related (PR := PR) (w := w) (base := base) T
  refine okP T.d_part_fault sc_part_fault (fun p ds h => by rw [h.2.2.2]; rfl) (fun _ _ _ _ _ _ us hl => match us, hl with | [_, _], _ => rfl) (fun f cdv A outer s H E hr => ?_)
  have hu := hu65 hr
  refine ⟨_, (pss_cons (ps_if (pt_cmpR op_eq (pe_ix (ix_k (K := K) rfl) (pv 1) pe_int (fun _ _ => rfl)) pe_str (nomark _)) (pss_cons (ps_set (i := 2) sc_part_fault.nd rfl (Or.inl rfl) (pe_call G_members (hr.mono (by omega)) rfl m_members k_members b_members .nil pass0 (pa_cons (pv 0) (pa_cons (pe_ix (ix_k (K := K) rfl) (pv 1) pe_int (fun _ _ => rfl)) pa_nil))))
    (pss_cons (ps_for PassesOwn.never rfl (pi_tup (pe_call G_members (hr.mono (by omega)) rfl m_members k_members b_members .nil pass0 (pa_cons (pv 0) (pa_cons (pe_ix (ix_k (K := K) rfl) (pv 1) pe_int (fun _ _ => rfl)) pa_nil)))) (pg_name (i := 3) sc_part_fault.nd rfl (Or.inl rfl)) (pss_one (ps_if (pt_cmpR (op_nin_k (K := K) rfl hu) (pv 3) (pv 2) (by rfl)) (pss_one (ps_ret (pe_tup (pa_cons (pv 3) pa_nil)))) pss_nil)))
    (pss_one (ps_ret pe_non)))) pss_nil)
    (pss_cons (ps_if (pt_cmpR op_eq (pe_ix (ix_k (K := K) rfl) (pv 1) pe_int (fun _ _ => rfl)) pe_str (nomark _)) (pss_cons (ps_for PassesOwn.never rfl (pi_range1 rfl T.mrange (pa_cons (pe_callB call_len_seq rfl T.mlen PySem.boot_len (pa_cons (pe_ix (ix_k (K := K) rfl) (pv 0) pe_int (fun _ _ => rfl)) pa_nil)) pa_nil)) (pg_name (i := 4) sc_part_fault.nd rfl (Or.inl rfl)) (pss_one (ps_for PassesOwn.never rfl (pi_range1 rfl T.mrange (pa_cons (pe_callB call_len_seq rfl T.mlen PySem.boot_len (pa_cons (pe_ix (ix_k (K := K) rfl) (pv 0) pe_int (fun _ _ => rfl)) pa_nil)) pa_nil)) (pg_name (i := 5) sc_part_fault.nd rfl (Or.inl rfl)) (pss_cons (ps_set (i := 6) sc_part_fault.nd rfl (Or.inl rfl) (pe_call G_is_related (hr.mono (by omega)) rfl m_is_related k_is_related b_is_related .nil pass0 (pa_cons (pv 0) (pa_cons (pe_ix (ix_k (K := K) rfl) (pv 1) pe_int (fun _ _ => rfl)) (pa_cons (pv 4) (pa_cons (pv 5) pa_nil))))))
    (pss_one (ps_if (PW.pt (pw_and (pt_val (pv 6)) (pw_and1 (pt_not (pt_val (pe_call G_is_related (hr.mono (by omega)) rfl m_is_related k_is_related b_is_related .nil pass0 (pa_cons (pv 0) (pa_cons (pe_ix (ix_k (K := K) rfl) (pv 1) pe_int (fun _ _ => rfl)) (pa_cons (pv 4) (pa_cons (pv 5) pa_nil)))))))))) (pss_one (ps_ret (pe_tup (pa_cons (pv 4) (pa_cons (pv 5) pa_nil))))) pss_nil))))))
    (pss_one (ps_ret pe_non))) pss_nil)
    (pss_cons (ps_if (pt_cmpR op_eq (pe_ix (ix_k (K := K) rfl) (pv 1) pe_int (fun _ _ => rfl)) pe_str (nomark _)) (pss_cons (ps_if (pt_cmpR (op_in_k (K := K) rfl hu) (pe_ix (ix_k (K := K) rfl) (pe_ix (ix_k (K := K) rfl) (pv 0) pe_int (fun _ _ => rfl)) (pe_ix (ix_k (K := K) rfl) (pv 1) pe_int (fun _ _ => rfl)) (fun _ _ => rfl)) (pe_call G_members (hr.mono (by omega)) rfl m_members k_members b_members .nil pass0 (pa_cons (pv 0) (pa_cons (pe_ix (ix_k (K := K) rfl) (pv 1) pe_int (fun _ _ => rfl)) pa_nil))) (by rfl)) (pss_one (ps_ret pe_non)) pss_nil)
    (pss_one (ps_ret (pe_tup (pa_cons (pe_ix (ix_k (K := K) rfl) (pe_ix (ix_k (K := K) rfl) (pv 0) pe_int (fun _ _ => rfl)) (pe_ix (ix_k (K := K) rfl) (pv 1) pe_int (fun _ _ => rfl)) (fun _ _ => rfl)) pa_nil))))) pss_nil)
    (pss_cons (ps_set (i := 4) sc_part_fault.nd rfl (Or.inl rfl) (pe_ix (ix_k (K := K) rfl) (pe_ix (ix_k (K := K) rfl) (pv 0) pe_int (fun _ _ => rfl)) (pe_ix (ix_k (K := K) rfl) (pv 1) pe_int (fun _ _ => rfl)) (fun _ _ => rfl)))
    (pss_cons (ps_set (i := 5) sc_part_fault.nd rfl (Or.inl rfl) (pe_ix (ix_k (K := K) rfl) (pe_ix (ix_k (K := K) rfl) (pv 0) pe_int (fun _ _ => rfl)) (pe_ix (ix_k (K := K) rfl) (pv 1) pe_int (fun _ _ => rfl)) (fun _ _ => rfl)))
    (pss_cons (ps_if (pt_val (pe_call G_is_related (hr.mono (by omega)) rfl m_is_related k_is_related b_is_related .nil pass0 (pa_cons (pv 0) (pa_cons (pe_tup (pa_cons (pe_ix (ix_k (K := K) rfl) (pv 1) pe_int (fun _ _ => rfl)) (pa_cons pe_bl pa_nil))) (pa_cons (pv 4) (pa_cons (pv 5) pa_nil)))))) (pss_one (ps_ret pe_non)) pss_nil)
    (pss_one (ps_ret (pe_tup (pa_cons (pv 4) (pa_cons (pv 5) pa_nil))))))))))), ?_⟩
  rintro ⟨⟨M, ni⟩, pt⟩ ds Z wh Q ⟨ok, hd, hi, rfl⟩ q
  replace hd : pt.depth < n := hd
  replace ok : M.ok ni := ok
  have few := ok.few
  have fw : M.n ≤ 100000 := by omega
  cases pt with
  | below c1 c2 =>
    have h1 : c1.depth < n := by have : max c1.depth c2.depth < n := hd; omega
    have h2 : c2.depth < n := by have : max c1.depth c2.depth < n := hd; omega
    refine nx_xT rfl rfl (by decide +kernel) ?_
    refine nx_sa <| ed_call <| ea_cons <| ed_var rfl <| ea_cons <| ed_op <| ed_var rfl <| ed_int <| od_ix ⟨_, rfl, ?_⟩
    refine ea_nil ⟨(M, c2), ⟨few, h2, rfl⟩, fun d hd => ?_⟩
    cases hd
    refine nx_sfP (mem M c1) dN (fun x => (mem M c2).contains x) (δ0 := [.dat (dM M), .dat (dPt (.below c1 c2)), .dat (.tup ((mem M c2).map dN)), .no, .no, .no, .no]) (SLe.refl _) (ei_tup <| ed_call <| ea_cons <| ed_var rfl <| ea_cons <| ed_op <| ed_var rfl <| ed_int <| od_ix ⟨_, rfl, ea_nil ⟨(M, c1), ⟨few, h1, rfl⟩, fun d hd => ⟨_, hd, rfl⟩⟩⟩) (fun x hx w ew N hN => ?_) (fun hall => ?_)
    · refine nx_i1 <| eb_test <| ed_op <| ed_var rfl <| ed_var rfl <| od_inDT ⟨_, .inr rfl, rfl, pl_nats _, _, rfl, ?_⟩
      rw [if_pos rfl, in_nats _ x]
      refine ⟨fun h => ?_, fun h => ?_⟩
      · refine nx_ret q.wt <| ed_tup <| ea_cons <| ed_var rfl <| ea_nil ⟨sm rfl, .inr ⟨?_, _, rfl⟩⟩
        show (mem M c1).all (fun x => (mem M c2).contains x) = false
        rw [List.all_eq_false]
        refine ⟨x, hx, ?_⟩
        cases e : (mem M c2).contains x
        · exact Bool.false_ne_true
        · rw [e] at h; cases h
      · refine hN _ (.same <| .same <| .same <| .no <| .same <| .same <| .same .nil) ?_
        cases e : (mem M c2).contains x
        · rw [e] at h; cases h
        · rfl
    · refine nx_ret q <| ed_non (.inl ⟨?_, rfl⟩)
      exact List.all_eq_true.mpr hall
  | under r s1 =>
    refine nx_xF rfl rfl (by decide +kernel) <| nx_xT rfl rfl (by decide +kernel) ?_
    have src : ∀ {c : Cn} {δ : List SD} {Hb : Hp}, δ[0]? = some (.dat (dM M)) → Ei K c δ Hb (iRng1 (tCons (tCB (fun xs H Q => ∃ p ys, xs = [.ref p] ∧ (SqL K H p ys ∨ SqT K H p ys) ∧ Q (.int ys.length) H) (tCons (tOp (rIx K) (tVar 0) (tC (.int 0))) tNil)) tNil)) fun src => src = (List.range M.n).map dN := fun h0 => by
      refine ei_range1 <| ea_cons <| ed_cb <| ea_cons <| ed_op <| ed_var h0 <| ed_int <| od_ix ⟨_, rfl, ?_⟩
      refine ea_nil <| cb_len ⟨_, .inr rfl, ?_⟩
      rw [List.length_map]
      exact ea_nil ⟨_, rfl, fw, rfl⟩
    refine nx_sfP (List.range M.n) dN (fun x => (List.range M.n).all fun y => !(rel M r x y && !rel M s1 x y)) (δ0 := [.dat (dM M), .dat (dPt (.under r s1)), .no, .no, .no, .no, .no]) (SLe.refl _) (src rfl) (fun x hx w ew N hN => ?_) (fun hall => ?_)
    · refine nx_forP (List.range M.n) dN (fun y => !(rel M r x y && !rel M s1 x y)) (δ0 := [.dat (dM M), .dat (dPt (.under r s1)), .no, .no, .dat (dN x), .no, .no]) (SLe.refl _) (src rfl) (fun y hy w2 ew2 N2 hN2 => ?_) (fun hall => ?_)
      · refine nx_sa <| ed_call <| ea_cons <| ed_var rfl <| ea_cons <| ed_op <| ed_var rfl <| ed_int <| od_ix ⟨_, rfl, ?_⟩
        refine ea_cons <| ed_var rfl <| ea_cons <| ed_var rfl <| ea_nil ⟨(M, r, x, y), rfl, fun d hd => ?_⟩
        cases hd
        refine nx_i1 <| eb_and <| eb_B <| ed_var rfl ⟨_, rfl, fun h1 => ?_, fun h1 => ⟨(fun h => by cases h), fun _ => ?_⟩⟩
        · replace h1 : rel M r x y = true := h1
          refine eb_not <| eb_B <| ed_call <| ea_cons <| ed_var rfl <| ea_cons <| ed_op <| ed_var rfl <| ed_int <| od_ix ⟨_, rfl, ?_⟩
          refine ea_cons <| ed_var rfl <| ea_cons <| ed_var rfl <| ea_nil ⟨(M, s1, x, y), rfl, fun d hd => ?_⟩
          cases hd
          refine ⟨_, rfl, fun h2 => ?_, fun h2 => ?_⟩
          · replace h2 : (!rel M s1 x y) = true := h2
            refine nx_ret q.wt.wt <| ed_tup <| ea_cons <| ed_var rfl <| ea_cons <| ed_var rfl <| ea_nil ⟨sm rfl, .inr ⟨?_, _, rfl⟩⟩
            show ((List.range M.n).all fun x => (List.range M.n).all fun y => !(rel M r x y && !rel M s1 x y)) = false
            rw [List.all_eq_false]
            refine ⟨x, hx, ?_⟩
            rw [Bool.not_eq_true, List.all_eq_false]
            refine ⟨y, hy, ?_⟩
            rw [h1, h2]
            exact Bool.false_ne_true
          · replace h2 : (!rel M s1 x y) = false := h2
            refine hN2 _ (.same <| .same <| .same <| .same <| .same <| .no <| .no .nil) ?_
            rw [h2, Bool.and_false]
            rfl
        · replace h1 : rel M r x y = false := h1
          refine hN2 _ (.same <| .same <| .same <| .same <| .same <| .no <| .no .nil) ?_
          rw [h1, Bool.false_and]
          rfl
      · exact hN _ (.same <| .same <| .same <| .same <| .no <| .same <| .same .nil) (List.all_eq_true.mpr hall)
    · refine nx_ret q <| ed_non (.inl ⟨?_, rfl⟩)
      exact List.all_eq_true.mpr hall
  | is a c1 =>
    obtain ⟨x, hx, hl⟩ := ok.ones a hi
    refine nx_xF rfl rfl (by decide +kernel) <| nx_xF rfl rfl (by decide +kernel) <| nx_xT rfl rfl (by decide +kernel) ?_
    refine nx_si <| eb_test <| ed_op <| ed_op <| ed_op <| ed_var rfl <| ed_int <| od_ix ⟨_, rfl, ?_⟩
    refine ed_op <| ed_var rfl <| ed_int <| od_ix ⟨_, rfl, od_ix ⟨_, ones_get hx, ?_⟩⟩
    refine ed_call <| ea_cons <| ed_var rfl <| ea_cons <| ed_op <| ed_var rfl <| ed_int <| od_ix ⟨_, rfl, ?_⟩
    refine ea_nil ⟨(M, c1), ⟨few, hd, rfl⟩, fun d hd => ?_⟩
    cases hd
    refine od_inDT ⟨_, .inr rfl, rfl, pl_nats _, _, rfl, ?_⟩
    rw [if_neg Bool.false_ne_true, in_nats _ x]
    have eh : holds M (.is a c1) = (mem M c1).contains x := by
      show (mem M c1).contains (M.ones.getD a 0) = _
      rw [ones_D hx]
    refine ⟨fun h => ?_, fun h => ?_⟩
    · exact nx_ret q <| ed_non (.inl ⟨eh.trans h, rfl⟩)
    · refine nx_ret q <| ed_tup <| ea_cons <| ed_op <| ed_op <| ed_var rfl <| ed_int <| od_ix ⟨_, rfl, ?_⟩
      refine ed_op <| ed_var rfl <| ed_int <| od_ix ⟨_, rfl, od_ix ⟨_, ones_get hx, ?_⟩⟩
      exact ea_nil ⟨sm rfl, .inr ⟨eh.trans h, _, rfl⟩⟩
  | has a m b =>
    obtain ⟨x, hx, hl⟩ := ok.ones a hi.1
    obtain ⟨y, hy, hm⟩ := ok.ones b hi.2
    refine nx_xF rfl rfl (by decide +kernel) <| nx_xF rfl rfl (by decide +kernel) <| nx_xF rfl rfl (by decide +kernel) ?_
    refine nx_sa <| ed_op <| ed_op <| ed_var rfl <| ed_int <| od_ix ⟨_, rfl, ?_⟩
    refine ed_op <| ed_var rfl <| ed_int <| od_ix ⟨_, rfl, od_ix ⟨_, ones_get hx, ?_⟩⟩
    refine nx_sa <| ed_op <| ed_op <| ed_var rfl <| ed_int <| od_ix ⟨_, rfl, ?_⟩
    refine ed_op <| ed_var rfl <| ed_int <| od_ix ⟨_, rfl, od_ix ⟨_, ones_get hy, ?_⟩⟩
    refine nx_si <| eb_B <| ed_call <| ea_cons <| ed_var rfl <| ea_cons <| ed_tup <| ea_cons <| ed_op <| ed_var rfl <| ed_int <| od_ix ⟨_, rfl, ?_⟩
    refine ea_cons <| ed_bl <| ea_nil ⟨sm rfl, ?_⟩
    refine ea_cons <| ed_var rfl <| ea_cons <| ed_var rfl <| ea_nil ⟨(M, (m, false), x, y), rfl, fun d hd => ?_⟩
    cases hd
    have eh : holds M (.has a m b) = rel M (m, false) x y := by
      show rel M (m, false) (M.ones.getD a 0) (M.ones.getD b 0) = _
      rw [ones_D hx, ones_D hy]
    refine ⟨_, rfl, fun h => ?_, fun h => ?_⟩
    · exact nx_ret q <| ed_non (.inl ⟨eh.trans h, rfl⟩)
    · exact nx_ret q <| ed_tup <| ea_cons <| ed_var rfl <| ea_cons <| ed_var rfl <| ea_nil ⟨sm rfl, .inr ⟨eh.trans h, _, rfl⟩⟩
/-! ### axiom_fault -/
def CQ.fit (n ni : Nat) : CQ → Prop
  | .never => False
  | .part p => p.depth < n ∧ p.ind ni
def preAx (n : Nat) (p : (Mo × Nat) × List CQ) (ds : List Da) : Prop := p.1.1.ok p.1.2 ∧ (∀ q, q ∈ p.2 → q.fit n p.1.2) ∧ ds = [dM p.1.1, .tup (p.2.map dCQ)]
def postAx (p : (Mo × Nat) × List CQ) (d : Da) : Prop := (p.2.all (holdsQ p.1.1) = true ∧ d = .non) ∨ (p.2.all (holdsQ p.1.1) = false ∧ ∃ x y, d = .tup [x, y])
theorem cl_axiom_fault (T : Txt K mg aA) (n : Nat) : Cl PR w K mg base (n + 3) "axiom_fault" ["model", "axiom"] (spP K (preAx n) postAx) := by
  obtain ⟨f1, fd1, G_part_fault, m_part_fault, k_part_fault, b_part_fault⟩ := cl_part_fault (PR := PR) (w := w) (base := base) T n
  refine okP T.d_axiom_fault sc_axiom_fault (fun p ds h => by rw [h.2.2]; rfl) (fun _ _ _ _ _ _ us hl => match us, hl with | [_, _], _ => rfl) (fun f cdv A outer s H E hr => ⟨_, (pss_cons (ps_for PassesOwn.never rfl (pi_enumT rfl T.menum (pa_cons (pv 1) pa_nil)) (pg_tup rfl (pgs_cons (pg_name (i := 2) sc_axiom_fault.nd rfl (Or.inl rfl)) (pgs_cons (pg_name (i := 3) sc_axiom_fault.nd rfl (Or.inl rfl)) pgs_nil))) (pss_cons (ps_set (i := 4) sc_axiom_fault.nd rfl (Or.inl rfl) (pe_call G_part_fault (hr.mono (by omega)) rfl m_part_fault k_part_fault b_part_fault .nil pass0 (pa_cons (pv 0) (pa_cons (pv 3) pa_nil))))
    (pss_one (ps_if (pt_cmpR op_notN (pv 4) pe_non (nomark _)) (pss_one (ps_ret (pe_tup (pa_cons (pv 2) (pa_cons (pv 4) pa_nil))))) pss_nil))))
    (pss_one (ps_ret pe_non))), ?_⟩)
  rintro ⟨⟨M, ni⟩, l⟩ ds Z wh Q ⟨ok, hf, rfl⟩ q
  refine nx_sfE l dCQ (holdsQ M) (δ0 := [.dat (dM M), .dat (.tup (l.map dCQ)), .no, .no, .no]) (SLe.refl _) (ea_cons <| ed_var rfl <| ea_nil rfl) (fun i x hx w ew N hN => ?_) (fun hall => ?_)
  · have hx' := hf x hx
    cases x with
    | never => exact hx'.elim
    | part pt =>
      refine nx_sa <| ed_call <| ea_cons <| ed_var rfl <| ea_cons <| ed_var rfl <| ea_nil ⟨((M, ni), pt), ⟨ok, hx'.1, hx'.2, rfl⟩, fun d hd => ?_⟩
      rcases hd with ⟨h1, rfl⟩ | ⟨h1, xs, rfl⟩
      · refine nx_i1 <| eb_test <| ed_op <| ed_var rfl <| ed_non <| od_notN ⟨rfl, _, rfl, (fun h => by cases h), fun _ => ?_⟩
        exact hN _ (.same <| .same <| .no <| .no <| .no .nil) h1
      · refine nx_i1 <| eb_test <| ed_op <| ed_var rfl <| ed_non <| od_notN ⟨rfl, _, rfl, (fun _ => ?_), fun h => by cases h⟩
        refine nx_ret q.wt <| ed_tup <| ea_cons <| ed_var rfl <| ea_cons <| ed_var rfl <| ea_nil ⟨sm rfl, .inr ⟨?_, _, _, rfl⟩⟩
        rw [List.all_eq_false]
        exact ⟨_, hx, by rw [show holdsQ M (.part pt) = false from h1]; exact Bool.false_ne_true⟩
  · exact nx_ret q <| ed_non (.inl ⟨List.all_eq_true.mpr hall, rfl⟩)
/-! ### breaks, of one axiom -/
def preBr (n : Nat) (p : (Mo × Nat) × List CQ) (ds : List Da) : Prop := p.1.1.ok p.1.2 ∧ (∀ q, q ∈ p.2 → q.fit n p.1.2) ∧ ∃ k, ds = [dM p.1.1, .tup [.tup [.tup (p.2.map dCQ)], k], .tup [.int 0]]
def postBr (p : (Mo × Nat) × List CQ) (d : Da) : Prop := ∃ xs, d = .tup xs ∧ (xs.length == 0) = p.2.all (holdsQ p.1.1)
theorem cl_breaks (T : Txt K mg aA) (n : Nat) : Cl PR w K mg base (n + 4) "breaks" ["model", "ontology", "places"] (spP K (preBr n) postBr) := by
  obtain ⟨f1, fd1, G_axiom_fault, m_axiom_fault, k_axiom_fault, b_axiom_fault⟩ := cl_axiom_fault (PR := PR) (w := w) (base := base) T n
  refine okP T.d_breaks sc_breaks (fun p ds h => by obtain ⟨_, _, k, rfl⟩ := h; rfl) (fun _ _ _ _ _ _ us hl => match us, hl with | [_, _, _], _ => rfl) (fun f cdv A outer s H E hr => ⟨_, (pss_cons (ps_set (i := 3) sc_breaks.nd rfl (Or.inl rfl) (pe_lst pa_nil))
    (pss_cons (ps_for PassesOwn.never rfl (pi_tup (pv 2)) (pg_name (i := 4) sc_breaks.nd rfl (Or.inl rfl)) (pss_cons (ps_set (i := 5) sc_breaks.nd rfl (Or.inl rfl) (pe_call G_axiom_fault (hr.mono (by omega)) rfl m_axiom_fault k_axiom_fault b_axiom_fault .nil pass0 (pa_cons (pv 0) (pa_cons (pe_ix (ix_k (K := K) rfl) (pe_ix (ix_k (K := K) rfl) (pv 1) pe_int (fun _ _ => rfl)) (pv 4) (fun _ _ => rfl)) pa_nil))))
    (pss_one (ps_if (pt_cmpR op_notN (pv 5) pe_non (nomark _)) (pss_one (ps_expr (pe_bm PySem.F.plainAttrs_list PySem.F.slot_list_append PySem.F.type_list_append mt_append (pv 3) (pa_cons (pe_tup (pa_cons (pv 4) (pa_cons (pe_ix (ix_k (K := K) rfl) (pv 5) pe_int (fun _ _ => rfl)) (pa_cons (pe_ix (ix_k (K := K) rfl) (pv 5) pe_int (fun _ _ => rfl)) pa_nil)))) pa_nil)))) pss_nil))))
    (pss_one (ps_ret (pe_callTy call_tuple_of rfl T.mtuple (by decide +kernel) (pa_cons (pv 3) pa_nil)))))), ?_⟩)
  rintro ⟨⟨M, ni⟩, l⟩ ds Z wh Q ⟨ok, hf, k, rfl⟩ q
  refine nx_sml fun a ha hb => ?_
  refine nx_sfor <| ei_tup <| ed_var rfl ⟨_, rfl, fun i δi => ∃ xs, δi = [.dat (dM M), .dat (.tup [.tup [.tup (l.map dCQ)], k]), .dat (.tup [.int 0]), .ml a xs, .no, .no] ∧ ((i = 0 ∧ xs = []) ∨ (i = 1 ∧ (xs.length == 0) = l.all (holdsQ M))), ⟨[], rfl, .inl ⟨rfl, rfl⟩⟩, fun i d δi w ew hd hinv => ?_, fun δn hinv => ?_⟩
  · have h0 : i = 0 ∧ d = .int 0 := by
      cases i with
      | zero => exact ⟨rfl, (Option.some.inj hd).symm⟩
      | succ i => cases hd
    obtain ⟨rfl, rfl⟩ := h0
    obtain ⟨xs, rfl, hx⟩ := hinv
    rcases hx with ⟨_, rfl⟩ | ⟨h, _⟩
    · refine nx_sa <| ed_call <| ea_cons <| ed_var rfl <| ea_cons <| ed_op <| ed_op <| ed_var rfl <| ed_int <| od_ix ⟨_, rfl, ?_⟩
      refine ed_var rfl <| od_ix ⟨_, rfl, ?_⟩
      refine ea_nil ⟨((M, ni), l), ⟨ok, hf, rfl⟩, fun d hd => ?_⟩
      rcases hd with ⟨h1, rfl⟩ | ⟨h1, x, y, rfl⟩
      · refine nx_i1 <| eb_test <| ed_op <| ed_var rfl <| ed_non <| od_notN ⟨rfl, _, rfl, (fun h => by cases h), fun _ => ?_⟩
        exact nx_turn (.same <| .same <| .same <| .same <| .no <| .no .nil) ⟨[], rfl, .inr ⟨rfl, h1.symm⟩⟩
      · refine nx_i1 <| eb_test <| ed_op <| ed_var rfl <| ed_non <| od_notN ⟨rfl, _, rfl, (fun _ => ?_), fun h => by cases h⟩
        refine nx_app (a := a) rfl hb (sm' rfl) ⟨⟩ <| ed_tup <| ea_cons <| ed_var rfl <| ea_cons <| ed_op <| ed_var rfl <| ed_int <| od_ix ⟨_, rfl, ?_⟩
        refine ea_cons <| ed_op <| ed_var rfl <| ed_int <| od_ix ⟨_, rfl, ea_nil ⟨sm rfl, ?_⟩⟩
        exact nx_turn (.same <| .same <| .same <| .same <| .no <| .no .nil) ⟨_, rfl, .inr ⟨rfl, h1.symm⟩⟩
    · cases h
  · obtain ⟨xs, rfl, hx⟩ := hinv
    rcases hx with ⟨h, _⟩ | ⟨_, h⟩
    · cases h
    · refine nx_ret q.hide ?_
      exact ed_tupleM (a := a) rfl ⟨xs, rfl, h⟩
/-! ### answers -/
def preAn (n : Nat) (p : (Mo × Nat) × CQ) (ds : List Da) : Prop := p.1.1.ok p.1.2 ∧ (p.2 = .never ∨ p.2.fit n p.1.2) ∧ ds = [dM p.1.1, dCQ p.2]
def postAn (p : (Mo × Nat) × CQ) (d : Da) : Prop := d = .bl (holdsQ p.1.1 p.2)
theorem cl_answers (T : Txt K mg aA) (n : Nat) : Cl PR w K mg base (n + 3) "answers" ["model", "question"] (spP K (preAn n) postAn) := by
  obtain ⟨f1, fd1, G_part_fault, m_part_fault, k_part_fault, b_part_fault⟩ := cl_part_fault (PR := PR) (w := w) (base := base) T n
  refine okP T.d_answers sc_answers (fun p ds h => by rw [h.2.2]; rfl) (fun _ _ _ _ _ _ us hl => match us, hl with | [_, _], _ => rfl) (fun f cdv A outer s H E hr => ⟨_, (pss_cons (ps_if (pt_cmpR op_eq (pe_ix (ix_k (K := K) rfl) (pv 1) pe_int (fun _ _ => rfl)) pe_str (nomark _)) (pss_one (ps_ret pe_bl)) pss_nil)
    (pss_one (ps_ret (pe_cmpR op_isN (pe_call G_part_fault (hr.mono (by omega)) rfl m_part_fault k_part_fault b_part_fault .nil pass0 (pa_cons (pv 0) (pa_cons (pv 1) pa_nil))) pe_non (nomark _))))), ?_⟩)
  rintro ⟨⟨M, ni⟩, qq⟩ ds Z wh Q ⟨ok, hf, rfl⟩ q
  cases qq with
  | never =>
    refine nx_xT rfl rfl (by decide +kernel) ?_
    exact nx_ret q <| ed_bl rfl
  | part pt =>
    have hf' : pt.depth < n ∧ pt.ind ni := by
      rcases hf with h | h
      · cases h
      · exact h
    have fin : Nx K ⟨Z, [], wh⟩ [.dat (dM M), .dat (dPt pt)] H (tRet (tOp (fun x y H Q => y = .non ∧ Q (.bl (decide (x = .non))) H) (tCall (spP K (preFa n) postFa) [] E0 (tCons (tVar 0) (tCons (tVar 1) tNil))) (tC .non)) { nx := fun _ H' => Q .non H', rt := Q }) := by
      refine nx_ret q <| ed_op <| ed_call <| ea_cons <| ed_var rfl <| ea_cons <| ed_var rfl <| ea_nil ⟨((M, ni), pt), ⟨ok, hf'.1, hf'.2, rfl⟩, fun d hd => ?_⟩
      rcases hd with ⟨h1, rfl⟩ | ⟨h1, xs, rfl⟩
      · exact ed_non <| od_isN ⟨rfl, congrArg Da.bl h1.symm⟩
      · exact ed_non <| od_isN ⟨rfl, congrArg Da.bl h1.symm⟩
    cases pt with
    | below c1 c2 => exact nx_xF rfl rfl (by decide +kernel) fin
    | under r s1 => exact nx_xF rfl rfl (by decide +kernel) fin
    | is a c1 => exact nx_xF rfl rfl (by decide +kernel) fin
    | has a m b => exact nx_xF rfl rfl (by decide +kernel) fin
end
end Kw

/-! the law's own meaning: _law_linked, _law_belongs, _law_told_names, _law_same -/
namespace Kw
open PySem PySem.Spec PyProof.Rows L2 Evl
section
variable {α : Type} {K : PySem.W.Frag} {c : Cn} {δ δ0 : List SD} {Hb : Hp} {D : Ends} {t u tb v : TS} {te ta : TE} {tas : TA} {tt : TT} {P : Da → Prop} {wi : TI} {j : Nat}
theorem filter_true (l : List α) : l.filter (fun _ => true) = l := List.filter_eq_self.mpr fun _ _ => rfl
/-- a comprehension without a test -/
theorem ed_lcM (l : List α) (g : α → Da) (f : α → Da) (hz : l.length ≤ 50000) (hsrc : Ei K c δ Hb wi fun src => src = l.map g)
    (he : ∀ x, x ∈ l → ∀ a w, Ex c.w w → a ∉ c.Z → Hb a = none → Ed K ((c.hide a).wt w) (δ.set j (.dat (g x))) Hb te fun e => e = f x)
    (hP : P (.lst (l.map f))) : Ed K c δ Hb (tLc wi (gName j) tYes te [j]) P := by
  refine ed_lcF l g (fun _ => true) f hz hsrc (fun x hx a w ew ha hb => eb_yes ⟨rfl, fun _ => he x hx a w ew ha hb⟩) ?_
  rw [filter_true]
  exact hP
theorem ed_or (h : Ed K c δ Hb ta fun d => ∃ b, d = .bl b ∧ (b = true → P (.bl true)) ∧ (b = false → Ed K c δ Hb te P)) : Ed K c δ Hb (tOrV ta te) P := fun σ H r ok s Q q =>
  h σ H r ok s _ fun v d H1 r1 ok1 ⟨b, e, h1, h2⟩ dv => by
    subst e
    cases dv
    refine ⟨b, rfl, ?_⟩
    cases b with
    | true => exact iteT (q _ _ H1 r1 ok1 (h1 rfl) (.bl _))
    | false => exact iteF (h2 rfl σ H1 (r.trans r1) ok1 (s.mono r1 ok) Q fun u e H2 r2 ok2 p du => q u e H2 (r1.trans r2) ok2 p du)
/-- the kind in slot i is told by a word -/
theorem eb_kd {i : Nat} {s s' : Str} {P : Bool → Prop} (b : Bool) (hi : δ[i]? = some (.dat (.str s))) (hn : decide (s = s') = b) (h : P b) : Eb K c δ Hb (tTest (tOp rEq (tVar i) (tC (.str s')))) P :=
  eb_test <| ed_op <| ed_var hi <| ed_str <| od_eq ⟨_, rfl, _, rfl, hn ▸ h⟩
theorem ed_kd {i : Nat} {s s' : Str} (b : Bool) (hi : δ[i]? = some (.dat (.str s))) (hn : decide (s = s') = b) (h : P (.bl b)) : Ed K c δ Hb (tOp rEq (tVar i) (tC (.str s'))) P :=
  ed_op <| ed_var hi <| ed_str <| od_eq ⟨_, rfl, hn ▸ h⟩
theorem nx_o2F {i : Nat} {s s1 s2 : Str} (hi : δ[i]? = some (.dat (.str s))) (h1 : decide (s = s1) = false) (h2 : decide (s = s2) = false) (h : Nx K c δ Hb (u D)) : Nx K c δ Hb (tSeq (tIfS (tOr (tTest (tOp rEq (tVar i) (tC (.str s1)))) (tTest (tOp rEq (tVar i) (tC (.str s2))))) t tNext) u D) :=
  nx_si <| eb_or <| eb_kd false hi h1 ⟨(fun e => by cases e), fun _ => eb_kd false hi h2 ⟨(fun e => by cases e), fun _ => h⟩⟩
theorem nx_o2T {i : Nat} {s s1 s2 : Str} (b : Bool) (hi : δ[i]? = some (.dat (.str s))) (h1 : decide (s = s1) = b) (h2 : b = false → decide (s = s2) = true) (h : Nx K c δ Hb (t { D with nx := u D })) : Nx K c δ Hb (tSeq (tIfS (tOr (tTest (tOp rEq (tVar i) (tC (.str s1)))) (tTest (tOp rEq (tVar i) (tC (.str s2))))) t v) u D) := by
  refine nx_sif <| eb_or <| eb_kd b hi h1 ⟨(fun _ => ⟨(fun _ => h), fun e => by cases e⟩), fun e => eb_kd true hi (h2 e) ⟨(fun _ => h), fun e => by cases e⟩⟩
end
section
variable {PR : Program} {w : World} {K : PySem.W.Frag} {mg : Str → Option Value} {base : Heap} {aA : Addr}
/-! ### _law_linked -/
def preLi (p : (Mo × Gp) × Ro × Nat × Nat) (ds : List Da) : Prop := p.1.2.ok ∧ p.2.1.1 < p.1.2.nr ∧ ds = [dM p.1.1, names p.1.2.N, dRw p.1.2.N p.2.1, dN p.2.2.1, dN p.2.2.2]
def postLi (p : (Mo × Gp) × Ro × Nat × Nat) (d : Da) : Prop := d = .bl (rel p.1.1 p.2.1 p.2.2.1 p.2.2.2)
theorem cl__law_linked (T : Txt K mg aA) : Cl PR w K mg base 1 "_law_linked" ["_law_model_here", "_law_names_here", "_law_role_here", "_law_first", "_law_second"] (spP K preLi postLi) := by
  refine okP T.d__law_linked sc__law_linked (fun p ds h => by rw [h.2.2]; rfl) (fun _ _ _ _ _ _ us hl => match us, hl with | [_, _, _, _, _], _ => rfl) (fun f cdv A outer s H E hr => ?_)
  have hu := hu65 hr
  refine ⟨_, (pss_cons (ps_set (i := 5) sc__law_linked.nd rfl (Or.inl rfl) (pe_lix (K := K) rfl (pe_ix (ix_k (K := K) rfl) (pv 1) pe_int (fun _ _ => rfl)) (pa_cons (pe_ix (ix_k (K := K) rfl) (pv 2) pe_int (fun _ _ => rfl)) pa_nil)))
    (pss_cons (ps_if (pt_val (pe_ix (ix_k (K := K) rfl) (pv 2) pe_int (fun _ _ => rfl))) (pss_one (ps_ret (pe_cmpR (op_in_k (K := K) rfl hu) (pe_tup (pa_cons (pv 5) (pa_cons (pv 4) (pa_cons (pv 3) pa_nil)))) (pe_ix (ix_k (K := K) rfl) (pv 0) pe_int (fun _ _ => rfl)) (by rfl)))) pss_nil)
    (pss_one (ps_ret (pe_cmpR (op_in_k (K := K) rfl hu) (pe_tup (pa_cons (pv 5) (pa_cons (pv 3) (pa_cons (pv 4) pa_nil)))) (pe_ix (ix_k (K := K) rfl) (pv 0) pe_int (fun _ _ => rfl)) (by rfl)))))), ?_⟩
  rintro ⟨⟨M, g⟩, ⟨r, b⟩, x, y⟩ ds Z wh Q ⟨ok, hlt, rfl⟩ q
  replace hlt : r < g.nr := hlt
  have hlen : r < g.N.rs.length := Nat.lt_of_lt_of_le hlt ok.lr
  refine nx_sa <| ed_lix <| ed_op <| ed_var rfl <| ed_int <| od_ix ⟨_, rfl, _, rfl, ?_⟩
  refine ed_op <| ed_var rfl <| ed_int <| od_ix ⟨_, rfl, nmAt g.N.rs r, r, rfl, nmAt_get hlen, fun m hm => nd_ix ok.rs hlen hm, ?_⟩
  refine nx_si <| eb_B <| ed_op <| ed_var rfl <| ed_int <| od_ix ⟨_, rfl, _, rfl, ?_⟩
  refine ⟨fun hb => ?_, fun hb => ?_⟩
  · refine nx_ret q <| ed_op <| ed_tup <| ea_cons <| ed_var rfl <| ea_cons <| ed_var rfl <| ea_cons <| ed_var rfl <| ea_nil ⟨sm rfl, ?_⟩
    refine ed_op <| ed_var rfl <| ed_int <| od_ix ⟨_, rfl, od_inDT ⟨_, .inr rfl, rfl, pl_links _, ?_⟩⟩
    show Da.bl _ = Da.bl _
    rw [if_neg Bool.false_ne_true]
    show Da.bl _ = Da.bl (rel M (r, b) x y)
    rw [show b = true from hb]
    exact congrArg Da.bl (in_links M.links (r, y, x))
  · refine nx_ret q <| ed_op <| ed_tup <| ea_cons <| ed_var rfl <| ea_cons <| ed_var rfl <| ea_cons <| ed_var rfl <| ea_nil ⟨sm rfl, ?_⟩
    refine ed_op <| ed_var rfl <| ed_int <| od_ix ⟨_, rfl, od_inDT ⟨_, .inr rfl, rfl, pl_links _, ?_⟩⟩
    show Da.bl _ = Da.bl _
    rw [if_neg Bool.false_ne_true]
    show Da.bl _ = Da.bl (rel M (r, b) x y)
    rw [show b = false from hb]
    exact congrArg Da.bl (in_links M.links (r, x, y))
/-! ### _law_told_names -/
def preTo (g : Gp) (ds : List Da) : Prop := g.ok ∧ ds = [names g.N, sizes g]
def postTo (g : Gp) (d : Da) : Prop := d = told g
theorem cl__law_told_names (T : Txt K mg aA) : Cl PR w K mg base 1 "_law_told_names" ["_law_names_here", "_law_sizes_here"] (spP K preTo postTo) := by
  refine okP T.d__law_told_names sc__law_told_names (fun p ds h => by rw [h.2]; rfl) (fun _ _ _ _ _ _ us hl => match us, hl with | [_, _], _ => rfl) (fun f cdv A outer s H E hr => ⟨_, (pss_one (ps_ret (pe_tup (pa_cons (pe_callTy call_tuple_frz rfl T.mtuple (by decide +kernel) (pa_cons (pe_slice sl_list (pe_ix (ix_k (K := K) rfl) (pv 0) pe_int (fun _ _ => rfl)) po_none (po_some (pe_ix (ix_k (K := K) rfl) (pv 1) pe_int (fun _ _ => rfl)))) pa_nil)) (pa_cons (pe_callTy call_tuple_frz rfl T.mtuple (by decide +kernel) (pa_cons (pe_slice sl_list (pe_ix (ix_k (K := K) rfl) (pv 0) pe_int (fun _ _ => rfl)) po_none (po_some (pe_ix (ix_k (K := K) rfl) (pv 1) pe_int (fun _ _ => rfl)))) pa_nil)) (pa_cons (pe_callTy call_tuple_frz rfl T.mtuple (by decide +kernel) (pa_cons (pe_slice sl_list (pe_ix (ix_k (K := K) rfl) (pv 0) pe_int (fun _ _ => rfl)) po_none (po_some (pe_ix (ix_k (K := K) rfl) (pv 1) pe_int (fun _ _ => rfl)))) pa_nil)) pa_nil)))))), ?_⟩)
  rintro g ds Z wh Q ⟨ok, rfl⟩ q
  refine nx_ret q <| ed_tup <| ea_cons <| ed_cb <| ea_cons <| ed_sl <| ed_op <| ed_var rfl <| ed_int <| od_ix ⟨_, rfl, _, g.nc, rfl, rfl, _, rfl, ?_⟩
  refine ed_op <| ed_var rfl <| ed_int <| od_ix ⟨_, rfl, rfl, by rw [List.length_map]; exact ok.lc, ?_⟩
  refine ea_nil <| cb_tuple_frz ⟨g.N.cs.take g.nc, by rw [List.map_take], ?_⟩
  refine ea_cons <| ed_cb <| ea_cons <| ed_sl <| ed_op <| ed_var rfl <| ed_int <| od_ix ⟨_, rfl, _, g.nr, rfl, rfl, _, rfl, ?_⟩
  refine ed_op <| ed_var rfl <| ed_int <| od_ix ⟨_, rfl, rfl, by rw [List.length_map]; exact ok.lr, ?_⟩
  refine ea_nil <| cb_tuple_frz ⟨g.N.rs.take g.nr, by rw [List.map_take], ?_⟩
  refine ea_cons <| ed_cb <| ea_cons <| ed_sl <| ed_op <| ed_var rfl <| ed_int <| od_ix ⟨_, rfl, _, g.ni, rfl, rfl, _, rfl, ?_⟩
  refine ed_op <| ed_var rfl <| ed_int <| od_ix ⟨_, rfl, rfl, by rw [List.length_map]; exact ok.li, ?_⟩
  refine ea_nil <| cb_tuple_frz ⟨g.N.is.take g.ni, by rw [List.map_take], ?_⟩
  exact ea_nil ⟨sm rfl, rfl⟩
/-! ### _law_same -/
def preSa (n : Nat) (p : Nat × List Nat) (ds : List Da) : Prop := p.2.length ≤ 50000 ∧ ((0 < n ∧ ds = [dN p.1, dN p.1]) ∨ (1 < n ∧ ds = [.tup (p.2.map dN), .tup (p.2.map dN)]))
def postSa (_ : Nat × List Nat) (d : Da) : Prop := d = .bl true
theorem cl__law_same (T : Txt K mg aA) : ∀ n : Nat, Cl PR w K mg base (n + 1) "_law_same" ["_law_actual", "_law_due"] (spP K (preSa n) postSa)
  | 0 => cl_none T.d__law_same (fun _ _ _ _ _ _ us hl => match us, hl with | [_, _], _ => rfl) fun p ds h => by rcases h.2 with h | h; exact absurd h.1 (Nat.not_lt_zero _); exact absurd h.1 (Nat.not_lt_zero _)
  | n + 1 => by
    obtain ⟨f1, fd1, G__law_same, m__law_same, k__law_same, b__law_same⟩ := cl__law_same T n
    refine okP T.d__law_same sc__law_same (fun p ds h => by rcases h.2 with h | h <;> rw [h.2] <;> rfl) (fun _ _ _ _ _ _ us hl => match us, hl with | [_, _], _ => rfl) (fun f cdv A outer s H E hr => ⟨_, (pss_cons (ps_if (pt_val (pe_callB call_isi rfl T.misi (by decide +kernel) (pa_cons (pv 1) (pa_cons (pe_bltn (v := .ty "tuple") rfl T.mtuple (by decide +kernel) rfl) pa_nil)))) (pss_cons (ps_if (PW.pt (pw_or (pt_not (pt_val (pe_callB call_isi rfl T.misi (by decide +kernel) (pa_cons (pv 0) (pa_cons (pe_bltn (v := .ty "tuple") rfl T.mtuple (by decide +kernel) rfl) pa_nil))))) (pw_or1 (pt_cmpR op_ne (pe_callB call_len_seq rfl T.mlen PySem.boot_len (pa_cons (pv 0) pa_nil)) (pe_callB call_len_seq rfl T.mlen PySem.boot_len (pa_cons (pv 1) pa_nil)) (nomark _))))) (pss_one (ps_ret pe_bl)) pss_nil)
    (pss_one (ps_ret (pe_callB (cr_all rfl) rfl T.mall (by decide +kernel) (pa_cons (pe_lc (own := [("_law_k", 2)]) (g := gName 2) (tt := tYes) rfl sc__law_same.nd (pi_range1 rfl T.mrange (pa_cons (pe_callB call_len_seq rfl T.mlen PySem.boot_len (pa_cons (pv 1) pa_nil)) pa_nil)) (blkOk_by (own := [("_law_k", 2)]) (N := n__law_same) (sc := defScope s__law_same) (by decide +kernel)) (fun _ _ _ _ _ => pg_name (i := 2) sc__law_same.nd rfl (Or.inl rfl)) (fun _ _ _ _ _ => pts_nil) (fun _ _ _ _ _ => (pe_call G__law_same (hr.mono (by omega)) rfl m__law_same k__law_same b__law_same .nil pass0 (pa_cons (pe_ix (ix_k (K := K) rfl) (pv 0) (pv 2) (fun _ _ => rfl)) (pa_cons (pe_ix (ix_k (K := K) rfl) (pv 1) (pv 2) (fun _ _ => rfl)) pa_nil))))) pa_nil))))) pss_nil)
    (pss_cons (ps_if (pt_val (pe_callB call_isi rfl T.misi (by decide +kernel) (pa_cons (pv 1) (pa_cons (pe_bltn (v := .ty "bool") rfl T.mbool (by decide +kernel) rfl) pa_nil)))) (pss_one (ps_ret (pe_and (pe_callB call_isi rfl T.misi (by decide +kernel) (pa_cons (pv 0) (pa_cons (pe_bltn (v := .ty "bool") rfl T.mbool (by decide +kernel) rfl) pa_nil))) (pe_one (pe_cmpR op_eq (pv 0) (pv 1) (nomark _)))))) pss_nil)
    (pss_cons (ps_if (pt_val (pe_callB call_isi rfl T.misi (by decide +kernel) (pa_cons (pv 1) (pa_cons (pe_bltn (v := .ty "int") rfl T.mint (by decide +kernel) rfl) pa_nil)))) (pss_one (ps_ret (pe_and (pe_callB call_isi rfl T.misi (by decide +kernel) (pa_cons (pv 0) (pa_cons (pe_bltn (v := .ty "int") rfl T.mint (by decide +kernel) rfl) pa_nil))) (pe_and (pe_not (pe_callB call_isi rfl T.misi (by decide +kernel) (pa_cons (pv 0) (pa_cons (pe_bltn (v := .ty "bool") rfl T.mbool (by decide +kernel) rfl) pa_nil)))) (pe_one (pe_cmpR op_eq (pv 0) (pv 1) (nomark _))))))) pss_nil)
    (pss_cons (ps_if (pt_val (pe_callB call_isi rfl T.misi (by decide +kernel) (pa_cons (pv 1) (pa_cons (pe_bltn (v := .ty "str") rfl T.mstr (by decide +kernel) rfl) pa_nil)))) (pss_one (ps_ret (pe_and (pe_callB call_isi rfl T.misi (by decide +kernel) (pa_cons (pv 0) (pa_cons (pe_bltn (v := .ty "str") rfl T.mstr (by decide +kernel) rfl) pa_nil))) (pe_one (pe_cmpR op_eq (pv 0) (pv 1) (nomark _)))))) pss_nil)
    (pss_one (ps_ret (pe_cmpR op_isN (pv 0) pe_non (nomark _)))))))), ?_⟩)
    rintro ⟨k, l⟩ ds Z wh Q ⟨hz, hp⟩ q
    rcases hp with ⟨_, rfl⟩ | ⟨hn, rfl⟩
    · refine nx_si <| eb_B <| ed_isi <| ed_var rfl ⟨_, false, rfl, by decide +kernel, _, rfl, (fun h => by cases h), fun _ => ?_⟩
      refine nx_si <| eb_B <| ed_isi <| ed_var rfl ⟨_, false, rfl, by decide +kernel, _, rfl, (fun h => by cases h), fun _ => ?_⟩
      refine nx_si <| eb_B <| ed_isi <| ed_var rfl ⟨_, true, rfl, by decide +kernel, _, rfl, (fun _ => ?_), fun h => by cases h⟩
      refine nx_ret q <| ed_and <| ed_isi <| ed_var rfl ⟨_, true, rfl, by decide +kernel, _, rfl, (fun _ => ?_), fun h => by cases h⟩
      refine ed_and <| ed_not <| ed_isi <| ed_var rfl ⟨_, false, rfl, by decide +kernel, _, rfl, _, rfl, (fun _ => ?_), fun h => by cases h⟩
      refine ed_op <| ed_var rfl <| ed_var rfl <| od_eq ⟨_, rfl, ?_⟩
      show Da.bl _ = Da.bl true
      rw [decide_eq_true rfl]
    · refine nx_si <| eb_B <| ed_isi <| ed_var rfl ⟨_, true, rfl, by decide +kernel, _, rfl, (fun _ => ?_), fun h => by cases h⟩
      refine nx_si <| eb_or <| eb_not <| eb_B <| ed_isi <| ed_var rfl ⟨_, true, rfl, by decide +kernel, _, rfl, (fun h => by cases h), fun _ => ?_⟩
      refine eb_test <| ed_op <| ed_cb <| ea_cons <| ed_var rfl <| ea_nil <| cb_len ⟨_, .inr rfl, ?_⟩
      refine ed_cb <| ea_cons <| ed_var rfl <| ea_nil <| cb_len ⟨_, .inr rfl, ?_⟩
      refine od_ne ⟨_, rfl, _, rfl, ?_⟩
      rw [decide_eq_true rfl]
      refine ⟨(fun h => by cases h), fun _ => ?_⟩
      refine nx_ret q <| ed_cb <| ea_cons ?_
      refine ed_lcM (List.range l.length) dN (fun _ => .bl true) (by rw [List.length_range]; exact hz) (ei_range1 <| ea_cons <| ed_cb <| ea_cons <| ed_var rfl <| ea_nil <| cb_len ⟨_, .inr rfl, ?_⟩) (fun x hx a w ew ha hb => ?_) ?_
      · rw [List.length_map]
        exact ea_nil ⟨_, rfl, by omega, rfl⟩
      · have hx' : x < l.length := List.mem_range.mp hx
        have e : ixD (.tup (l.map dN)) (dN x) = some (dN (l[x])) := by
          show (l.map dN)[x]? = _
          rw [List.getElem?_map, List.getElem?_eq_getElem hx']
          rfl
        refine ed_call <| ea_cons <| ed_op <| ed_var rfl <| ed_var rfl <| od_ix ⟨_, e, ?_⟩
        refine ea_cons <| ed_op <| ed_var rfl <| ed_var rfl <| od_ix ⟨_, e, ?_⟩
        exact ea_nil ⟨(l[x], []), ⟨Nat.zero_le _, .inl ⟨Nat.lt_of_succ_lt_succ hn, rfl⟩⟩, fun d hd => hd⟩
      · refine ea_nil <| cb_all ⟨List.replicate l.length true, ?_, ?_⟩
        · have : (List.range l.length).map (fun _ => Da.bl true) = (List.replicate l.length true).map Da.bl := by
            rw [List.map_replicate, List.map_const']
            rw [List.length_range]
          rw [this]
        · show Da.bl _ = Da.bl true
          congr 1
          rw [List.all_eq_true]
          intro b hb
          exact (List.mem_replicate.mp hb).2
/-! ### _law_belongs -/
def dRow (M : Mo) (c : WC) : Da := .lst ((List.range M.n).map fun x => .bl (satW M c x))
theorem row_get {M : Mo} {c : WC} {x : Nat} (h : x < M.n) : ixD (dRow M c) (dN x) = some (.bl (satW M c x)) := by
  show ((List.range M.n).map fun x => Da.bl (satW M c x))[x]? = _
  rw [List.getElem?_map, List.getElem?_range h]
  rfl
def preBe (n : Nat) (p : (Mo × Gp) × WC) (ds : List Da) : Prop := p.1.1.n ≤ 100 ∧ p.1.2.ok ∧ p.2.wf p.1.2.nc p.1.2.nr ∧ p.2.depth < n ∧ ds = [dM p.1.1, names p.1.2.N, dW p.1.2.N p.2]
def postBe (p : (Mo × Gp) × WC) (d : Da) : Prop := d = dRow p.1.1 p.2
theorem cl__law_belongs (T : Txt K mg aA) : ∀ n : Nat, Cl PR w K mg base (n + 1) "_law_belongs" ["_law_model_here", "_law_names_here", "_law_concept_here"] (spP K (preBe n) postBe)
  | 0 => cl_none T.d__law_belongs (fun _ _ _ _ _ _ us hl => match us, hl with | [_, _, _], _ => rfl) fun p ds h => absurd h.2.2.2.1 (Nat.not_lt_zero _)
  | n + 1 => by
    obtain ⟨f1, fd1, G__law_belongs, m__law_belongs, k__law_belongs, b__law_belongs⟩ := cl__law_belongs T n
    obtain ⟨f2, fd2, G__law_linked, m__law_linked, k__law_linked, b__law_linked⟩ := cl__law_linked (PR := PR) (w := w) (base := base) T
    refine okP T.d__law_belongs sc__law_belongs (fun p ds h => by rw [h.2.2.2.2]; rfl) (fun _ _ _ _ _ _ us hl => match us, hl with | [_, _, _], _ => rfl) (fun f cdv A outer s H E hr => ?_)
    have hu := hu65 hr
    refine ⟨_, (pss_cons (ps_set (i := 3) sc__law_belongs.nd rfl (Or.inl rfl) (pe_callB call_len_seq rfl T.mlen PySem.boot_len (pa_cons (pe_ix (ix_k (K := K) rfl) (pv 0) pe_int (fun _ _ => rfl)) pa_nil)))
    (pss_cons (ps_set (i := 4) sc__law_belongs.nd rfl (Or.inr rfl) (pe_ix (ix_k (K := K) rfl) (pv 2) pe_int (fun _ _ => rfl)))
    (pss_cons (ps_if (PW.pt (pw_or (pt_cmpR op_eq (pv 4) pe_str (nomark _)) (pw_or1 (pt_cmpR op_eq (pv 4) pe_str (nomark _))))) (pss_one (ps_ret (pe_lc (own := [("_law_thing", 9)]) (g := gName 9) (tt := tYes) rfl sc__law_belongs.nd (pi_range1 rfl T.mrange (pa_cons (pv 3) pa_nil)) (blkOk_by (own := [("_law_thing", 9)]) (N := n__law_belongs) (sc := defScope s__law_belongs) (by decide +kernel)) (fun _ _ _ _ _ => pg_name (i := 9) sc__law_belongs.nd rfl (Or.inl rfl)) (fun _ _ _ _ _ => pts_nil) (fun _ _ _ _ _ => (pe_cmpR op_eq (pv 4) pe_str (nomark _)))))) pss_nil)
    (pss_cons (ps_if (pt_cmpR op_eq (pv 4) pe_str (nomark _)) (pss_one (ps_ret (pe_lc (own := [("_law_thing", 9)]) (g := gName 9) (tt := tYes) rfl sc__law_belongs.nd (pi_range1 rfl T.mrange (pa_cons (pv 3) pa_nil)) (blkOk_by (own := [("_law_thing", 9)]) (N := n__law_belongs) (sc := defScope s__law_belongs) (by decide +kernel)) (fun _ _ _ _ _ => pg_name (i := 9) sc__law_belongs.nd rfl (Or.inl rfl)) (fun _ _ _ _ _ => pts_nil) (fun _ _ _ _ _ => (pe_cmpR (op_in_k (K := K) rfl hu) (pe_lix (K := K) rfl (pe_ix (ix_k (K := K) rfl) (pv 1) pe_int (fun _ _ => rfl)) (pa_cons (pe_ix (ix_k (K := K) rfl) (pv 2) pe_int (fun _ _ => rfl)) pa_nil)) (pe_ix (ix_k (K := K) rfl) (pe_ix (ix_k (K := K) rfl) (pv 0) pe_int (fun _ _ => rfl)) (pv 9) (fun _ _ => rfl)) (by rfl)))))) pss_nil)
    (pss_cons (ps_if (pt_cmpR op_eq (pv 4) pe_str (nomark _)) (pss_one (ps_ret (pe_lc (own := [("_law_row", 11)]) (g := gName 11) (tt := tYes) rfl sc__law_belongs.nd (pi_list (pe_call G__law_belongs (hr.mono (by omega)) rfl m__law_belongs k__law_belongs b__law_belongs .nil pass0 (pa_cons (pv 0) (pa_cons (pv 1) (pa_cons (pe_ix (ix_k (K := K) rfl) (pv 2) pe_int (fun _ _ => rfl)) pa_nil))))) (blkOk_by (own := [("_law_row", 11)]) (N := n__law_belongs) (sc := defScope s__law_belongs) (by decide +kernel)) (fun _ _ _ _ _ => pg_name (i := 11) sc__law_belongs.nd rfl (Or.inl rfl)) (fun _ _ _ _ _ => pts_nil) (fun _ _ _ _ _ => (pe_not (pv 11)))))) pss_nil)
    (pss_cons (ps_if (PW.pt (pw_or (pt_cmpR op_eq (pv 4) pe_str (nomark _)) (pw_or1 (pt_cmpR op_eq (pv 4) pe_str (nomark _))))) (pss_cons (ps_set (i := 5) sc__law_belongs.nd rfl (Or.inr rfl) (pe_call G__law_belongs (hr.mono (by omega)) rfl m__law_belongs k__law_belongs b__law_belongs .nil pass0 (pa_cons (pv 0) (pa_cons (pv 1) (pa_cons (pe_ix (ix_k (K := K) rfl) (pv 2) pe_int (fun _ _ => rfl)) pa_nil)))))
    (pss_cons (ps_set (i := 6) sc__law_belongs.nd rfl (Or.inr rfl) (pe_call G__law_belongs (hr.mono (by omega)) rfl m__law_belongs k__law_belongs b__law_belongs .nil pass0 (pa_cons (pv 0) (pa_cons (pv 1) (pa_cons (pe_ix (ix_k (K := K) rfl) (pv 2) pe_int (fun _ _ => rfl)) pa_nil)))))
    (pss_cons (ps_if (pt_cmpR op_eq (pv 4) pe_str (nomark _)) (pss_one (ps_ret (pe_lc (own := [("_law_thing", 9)]) (g := gName 9) (tt := tYes) rfl sc__law_belongs.nd (pi_range1 rfl T.mrange (pa_cons (pv 3) pa_nil)) (blkOk_by (own := [("_law_thing", 9)]) (N := n__law_belongs) (sc := defScope s__law_belongs) (by decide +kernel)) (fun _ _ _ _ _ => pg_name (i := 9) sc__law_belongs.nd rfl (Or.inl rfl)) (fun _ _ _ _ _ => pts_nil) (fun _ _ _ _ _ => (pe_and (pe_ix (ix_k (K := K) rfl) (pv 5) (pv 9) (fun _ _ => rfl)) (pe_one (pe_ix (ix_k (K := K) rfl) (pv 6) (pv 9) (fun _ _ => rfl)))))))) pss_nil)
    (pss_one (ps_ret (pe_lc (own := [("_law_thing", 9)]) (g := gName 9) (tt := tYes) rfl sc__law_belongs.nd (pi_range1 rfl T.mrange (pa_cons (pv 3) pa_nil)) (blkOk_by (own := [("_law_thing", 9)]) (N := n__law_belongs) (sc := defScope s__law_belongs) (by decide +kernel)) (fun _ _ _ _ _ => pg_name (i := 9) sc__law_belongs.nd rfl (Or.inl rfl)) (fun _ _ _ _ _ => pts_nil) (fun _ _ _ _ _ => (pe_or (pe_ix (ix_k (K := K) rfl) (pv 5) (pv 9) (fun _ _ => rfl)) (pe_one (pe_ix (ix_k (K := K) rfl) (pv 6) (pv 9) (fun _ _ => rfl))))))))))) pss_nil)
    (pss_cons (ps_set (i := 7) sc__law_belongs.nd rfl (Or.inr rfl) (pe_call G__law_belongs (hr.mono (by omega)) rfl m__law_belongs k__law_belongs b__law_belongs .nil pass0 (pa_cons (pv 0) (pa_cons (pv 1) (pa_cons (pe_ix (ix_k (K := K) rfl) (pv 2) pe_int (fun _ _ => rfl)) pa_nil)))))
    (pss_cons (ps_set (i := 8) sc__law_belongs.nd rfl (Or.inl rfl) (pe_lst pa_nil))
    (pss_cons (ps_for PassesOwn.never rfl (pi_range1 rfl T.mrange (pa_cons (pv 3) pa_nil)) (pg_name (i := 9) sc__law_belongs.nd rfl (Or.inr rfl)) (pss_cons (ps_setLc (i := 10) (own := [("_law_other", 12)]) (g := gName 12) rfl sc__law_belongs.nd rfl rfl (sw_true rfl rfl rfl (by decide +kernel)) (pi_range1 rfl T.mrange (pa_cons (pv 3) pa_nil)) (blkOk_by (own := [("_law_other", 12)]) (N := n__law_belongs) (sc := defScope s__law_belongs) (by decide +kernel)) (fun _ _ _ _ _ => pg_name (i := 12) sc__law_belongs.nd rfl (Or.inl rfl)) (fun _ _ _ _ _ => (pts_one (pt_val (pe_call G__law_linked (hr.mono (by omega)) rfl m__law_linked k__law_linked b__law_linked .nil pass0 (pa_cons (pv 0) (pa_cons (pv 1) (pa_cons (pe_ix (ix_k (K := K) rfl) (pv 2) pe_int (fun _ _ => rfl)) (pa_cons (pv 9) (pa_cons (pv 12) pa_nil))))))))) (fun _ _ _ _ _ => (pe_ix (ix_k (K := K) rfl) (pv 7) (pv 12) (fun _ _ => rfl))))
    (pss_one (ps_if (pt_cmpR op_eq (pv 4) pe_str (nomark _)) (pss_one (ps_expr (pe_bm PySem.F.plainAttrs_list PySem.F.slot_list_append PySem.F.type_list_append mt_append (pv 8) (pa_cons (pe_callB (cr_any rfl) rfl T.many (by decide +kernel) (pa_cons (pv 10) pa_nil)) pa_nil)))) (pss_one (ps_expr (pe_bm PySem.F.plainAttrs_list PySem.F.slot_list_append PySem.F.type_list_append mt_append (pv 8) (pa_cons (pe_callB (cr_all rfl) rfl T.mall (by decide +kernel) (pa_cons (pv 10) pa_nil)) pa_nil))))))))
    (pss_one (ps_ret (pv 8)))))))))))), ?_⟩
    rintro ⟨⟨M, g⟩, c⟩ ds Z wh Q ⟨few, ok, wf, hd, rfl⟩ q
    replace hd : c.depth < n + 1 := hd
    replace few : M.n ≤ 100 := few
    have fw : M.n ≤ 100000 := by omega
    have rl : (List.range M.n).length ≤ 50000 := rng_len few
    cases c with
    | anything =>
      refine nx_sa <| ed_cb <| ea_cons <| ed_op <| ed_var rfl <| ed_int <| od_ix ⟨_, rfl, ?_⟩
      refine ea_nil <| cb_len ⟨_, .inr rfl, ?_⟩
      rw [List.length_map]
      refine nx_sa <| ed_op <| ed_var rfl <| ed_int <| od_ix ⟨_, rfl, ?_⟩
      refine nx_o2T true rfl (by decide +kernel) (fun e => by cases e) ?_
      refine nx_ret q ?_
      exact ed_lcM (List.range M.n) dN (fun x => .bl (satW M .anything x)) rl (ei_range1 <| ea_cons <| ed_var rfl <| ea_nil ⟨_, rfl, fw, rfl⟩) (fun x hx a w ew ha hb => ed_kd true rfl (by decide +kernel) rfl) rfl
    | nothing =>
      refine nx_sa <| ed_cb <| ea_cons <| ed_op <| ed_var rfl <| ed_int <| od_ix ⟨_, rfl, ?_⟩
      refine ea_nil <| cb_len ⟨_, .inr rfl, ?_⟩
      rw [List.length_map]
      refine nx_sa <| ed_op <| ed_var rfl <| ed_int <| od_ix ⟨_, rfl, ?_⟩
      refine nx_o2T false rfl (by decide +kernel) (fun _ => by decide +kernel) ?_
      refine nx_ret q ?_
      exact ed_lcM (List.range M.n) dN (fun x => .bl (satW M .nothing x)) rl (ei_range1 <| ea_cons <| ed_var rfl <| ea_nil ⟨_, rfl, fw, rfl⟩) (fun x hx a w ew ha hb => ed_kd false rfl (by decide +kernel) rfl) rfl
    | name i =>
      refine nx_sa <| ed_cb <| ea_cons <| ed_op <| ed_var rfl <| ed_int <| od_ix ⟨_, rfl, ?_⟩
      refine ea_nil <| cb_len ⟨_, .inr rfl, ?_⟩
      rw [List.length_map]
      refine nx_sa <| ed_op <| ed_var rfl <| ed_int <| od_ix ⟨_, rfl, ?_⟩
      refine nx_o2F rfl (by decide +kernel) (by decide +kernel) ?_
      refine nx_kT rfl (by decide +kernel) ?_
      refine nx_ret q ?_
      refine ed_lcM (List.range M.n) dN (fun x => .bl (satW M (.name i) x)) rl (ei_range1 <| ea_cons <| ed_var rfl <| ea_nil ⟨_, rfl, fw, rfl⟩) (fun x hx a w ew ha hb => ?_) rfl
      have hlt : x < M.n := List.mem_range.mp hx
      have hlen : i < g.N.cs.length := Nat.lt_of_lt_of_le wf ok.lc
      refine ed_op <| ed_lix <| ed_op <| ed_var rfl <| ed_int <| od_ix ⟨_, rfl, _, rfl, ?_⟩
      refine ed_op <| ed_var rfl <| ed_int <| od_ix ⟨_, rfl, nmAt g.N.cs i, i, rfl, nmAt_get hlen, fun m hm => nd_ix ok.cs hlen hm, ?_⟩
      refine ed_op <| ed_op <| ed_var rfl <| ed_int <| od_ix ⟨_, rfl, ?_⟩
      refine ed_var rfl <| od_ix ⟨_, things_get hlt, od_inDT ⟨_, .inr rfl, rfl, pl_nats _, ?_⟩⟩
      rw [if_neg Bool.false_ne_true]
      exact congrArg Da.bl (in_nats _ i)
    | not c =>
      have h1 : c.depth < n := Nat.lt_of_succ_lt_succ hd
      refine nx_sa <| ed_cb <| ea_cons <| ed_op <| ed_var rfl <| ed_int <| od_ix ⟨_, rfl, ?_⟩
      refine ea_nil <| cb_len ⟨_, .inr rfl, ?_⟩
      rw [List.length_map]
      refine nx_sa <| ed_op <| ed_var rfl <| ed_int <| od_ix ⟨_, rfl, ?_⟩
      refine nx_o2F rfl (by decide +kernel) (by decide +kernel) ?_
      refine nx_kF rfl (by decide +kernel) <| nx_kT rfl (by decide +kernel) ?_
      refine nx_ret q ?_
      refine ed_lcM (List.range M.n) (fun x => .bl (satW M c x)) (fun x => .bl (satW M (.not c) x)) rl (ei_list <| ed_call <| ea_cons <| ed_var rfl <| ea_cons <| ed_var rfl <| ea_cons <| ed_op <| ed_var rfl <| ed_int <| od_ix ⟨_, rfl, ea_nil ⟨((M, g), c), ⟨few, ok, wf, h1, rfl⟩, fun d hd => ⟨_, hd, rfl⟩⟩⟩) (fun x hx a w ew ha hb => ?_) rfl
      exact ed_not <| ed_var rfl ⟨_, rfl, rfl⟩
    | and c1 c2 =>
      have h1 : c1.depth < n := by have : max c1.depth c2.depth + 1 < n + 1 := hd; omega
      have h2 : c2.depth < n := by have : max c1.depth c2.depth + 1 < n + 1 := hd; omega
      refine nx_sa <| ed_cb <| ea_cons <| ed_op <| ed_var rfl <| ed_int <| od_ix ⟨_, rfl, ?_⟩
      refine ea_nil <| cb_len ⟨_, .inr rfl, ?_⟩
      rw [List.length_map]
      refine nx_sa <| ed_op <| ed_var rfl <| ed_int <| od_ix ⟨_, rfl, ?_⟩
      refine nx_o2F rfl (by decide +kernel) (by decide +kernel) ?_
      refine nx_kF rfl (by decide +kernel) <| nx_kF rfl (by decide +kernel) ?_
      refine nx_o2T true rfl (by decide +kernel) (fun e => by cases e) ?_
      refine nx_sa <| ed_call <| ea_cons <| ed_var rfl <| ea_cons <| ed_var rfl <| ea_cons <| ed_op <| ed_var rfl <| ed_int <| od_ix ⟨_, rfl, ?_⟩
      refine ea_nil ⟨((M, g), c1), ⟨few, ok, wf.1, h1, rfl⟩, fun d hd => ?_⟩
      cases hd
      refine nx_sa <| ed_call <| ea_cons <| ed_var rfl <| ea_cons <| ed_var rfl <| ea_cons <| ed_op <| ed_var rfl <| ed_int <| od_ix ⟨_, rfl, ?_⟩
      refine ea_nil ⟨((M, g), c2), ⟨few, ok, wf.2, h2, rfl⟩, fun d hd => ?_⟩
      cases hd
      refine nx_kT rfl (by decide +kernel) ?_
      refine nx_ret q ?_
      refine ed_lcM (List.range M.n) dN (fun x => .bl (satW M (.and c1 c2) x)) rl (ei_range1 <| ea_cons <| ed_var rfl <| ea_nil ⟨_, rfl, fw, rfl⟩) (fun x hx a w ew ha hb => ?_) rfl
      have hlt : x < M.n := List.mem_range.mp hx
      refine ed_and <| ed_op <| ed_var rfl <| ed_var rfl <| od_ix ⟨_, row_get hlt, _, rfl, fun h => ?_, fun h => ?_⟩
      · refine ed_op <| ed_var rfl <| ed_var rfl <| od_ix ⟨_, row_get hlt, ?_⟩
        show Da.bl _ = Da.bl (satW M c1 x && satW M c2 x)
        rw [h, Bool.true_and]
      · show Da.bl _ = Da.bl (satW M c1 x && satW M c2 x)
        rw [h, Bool.false_and]
    | or c1 c2 =>
      have h1 : c1.depth < n := by have : max c1.depth c2.depth + 1 < n + 1 := hd; omega
      have h2 : c2.depth < n := by have : max c1.depth c2.depth + 1 < n + 1 := hd; omega
      refine nx_sa <| ed_cb <| ea_cons <| ed_op <| ed_var rfl <| ed_int <| od_ix ⟨_, rfl, ?_⟩
      refine ea_nil <| cb_len ⟨_, .inr rfl, ?_⟩
      rw [List.length_map]
      refine nx_sa <| ed_op <| ed_var rfl <| ed_int <| od_ix ⟨_, rfl, ?_⟩
      refine nx_o2F rfl (by decide +kernel) (by decide +kernel) ?_
      refine nx_kF rfl (by decide +kernel) <| nx_kF rfl (by decide +kernel) ?_
      refine nx_o2T false rfl (by decide +kernel) (fun _ => by decide +kernel) ?_
      refine nx_sa <| ed_call <| ea_cons <| ed_var rfl <| ea_cons <| ed_var rfl <| ea_cons <| ed_op <| ed_var rfl <| ed_int <| od_ix ⟨_, rfl, ?_⟩
      refine ea_nil ⟨((M, g), c1), ⟨few, ok, wf.1, h1, rfl⟩, fun d hd => ?_⟩
      cases hd
      refine nx_sa <| ed_call <| ea_cons <| ed_var rfl <| ea_cons <| ed_var rfl <| ea_cons <| ed_op <| ed_var rfl <| ed_int <| od_ix ⟨_, rfl, ?_⟩
      refine ea_nil ⟨((M, g), c2), ⟨few, ok, wf.2, h2, rfl⟩, fun d hd => ?_⟩
      cases hd
      refine nx_kF rfl (by decide +kernel) ?_
      refine nx_ret q ?_
      refine ed_lcM (List.range M.n) dN (fun x => .bl (satW M (.or c1 c2) x)) rl (ei_range1 <| ea_cons <| ed_var rfl <| ea_nil ⟨_, rfl, fw, rfl⟩) (fun x hx a w ew ha hb => ?_) rfl
      have hlt : x < M.n := List.mem_range.mp hx
      refine ed_or <| ed_op <| ed_var rfl <| ed_var rfl <| od_ix ⟨_, row_get hlt, _, rfl, fun h => ?_, fun h => ?_⟩
      · show Da.bl _ = Da.bl (satW M c1 x || satW M c2 x)
        rw [h, Bool.true_or]
      · refine ed_op <| ed_var rfl <| ed_var rfl <| od_ix ⟨_, row_get hlt, ?_⟩
        show Da.bl _ = Da.bl (satW M c1 x || satW M c2 x)
        rw [h, Bool.false_or]
    | some r c =>
      have h1 : c.depth < n := Nat.lt_of_succ_lt_succ hd
      refine nx_sa <| ed_cb <| ea_cons <| ed_op <| ed_var rfl <| ed_int <| od_ix ⟨_, rfl, ?_⟩
      refine ea_nil <| cb_len ⟨_, .inr rfl, ?_⟩
      rw [List.length_map]
      refine nx_sa <| ed_op <| ed_var rfl <| ed_int <| od_ix ⟨_, rfl, ?_⟩
      refine nx_o2F rfl (by decide +kernel) (by decide +kernel) ?_
      refine nx_kF rfl (by decide +kernel) <| nx_kF rfl (by decide +kernel) ?_
      refine nx_o2F rfl (by decide +kernel) (by decide +kernel) ?_
      refine nx_sa <| ed_call <| ea_cons <| ed_var rfl <| ea_cons <| ed_var rfl <| ea_cons <| ed_op <| ed_var rfl <| ed_int <| od_ix ⟨_, rfl, ?_⟩
      refine ea_nil ⟨((M, g), c), ⟨few, ok, wf.2, h1, rfl⟩, fun d hd => ?_⟩
      cases hd
      refine nx_sml fun a ha hb => ?_
      refine nx_sfM (List.range M.n) dN (fun _ => true) (fun x => .bl (satW M (.some r c) x)) (δ0 := [.dat (dM M), .dat (names g.N), .dat (dW g.N (.some r c)), .dat (.int (M.n : Int)), .dat (.str "some"), .no, .no, .dat (dRow M c), .no, .no, .no, .no, .no]) (s := 8) (a := a) rl (SLe.refl _) (ei_range1 <| ea_cons <| ed_var rfl <| ea_nil ⟨_, rfl, fw, rfl⟩) (fun x hx w acc hz ew N hN => ?_) ?_
      · refine nx_sa ?_
        refine ed_lcF (List.range M.n) dN (fun y => rel M r x y) (fun y => .bl (satW M c y)) rl (ei_range1 <| ea_cons <| ed_var rfl <| ea_nil ⟨_, rfl, fw, rfl⟩) (fun y hy a' w' ew' ha' hb' => ?_) ?_
        · have hlt : y < M.n := List.mem_range.mp hy
          refine eb_B <| ed_call <| ea_cons <| ed_var rfl <| ea_cons <| ed_var rfl <| ea_cons <| ed_op <| ed_var rfl <| ed_int <| od_ix ⟨_, rfl, ?_⟩
          refine ea_cons <| ed_var rfl <| ea_cons <| ed_var rfl <| ea_nil ⟨((M, g), r, x, y), ⟨ok, wf.1, rfl⟩, fun d hd => ⟨_, hd, rfl, fun _ => ?_⟩⟩
          exact ed_op <| ed_var rfl <| ed_var rfl <| od_ix ⟨_, row_get hlt, rfl⟩
        · refine nx_if <| eb_kd true rfl (by decide +kernel) ⟨(fun _ => ?_), fun e => by cases e⟩
          refine nx_app (a := a) rfl hb (by omega) ⟨⟩ <| ed_cb <| ea_cons <| ed_var rfl <| ea_nil <| cb_any ⟨((List.range M.n).filter fun y => rel M r x y).map (satW M c), by rw [List.map_map]; rfl, ?_⟩
          refine hN _ ?_
          rw [if_pos rfl]
          exact .same <| .same <| .same <| .same <| .same <| .same <| .same <| .same <| .same <| .no <| .no <| .same <| .same .nil
      · rw [filter_true]
        exact nx_retml (a := a) rfl ha q rfl
    | all r c =>
      have h1 : c.depth < n := Nat.lt_of_succ_lt_succ hd
      refine nx_sa <| ed_cb <| ea_cons <| ed_op <| ed_var rfl <| ed_int <| od_ix ⟨_, rfl, ?_⟩
      refine ea_nil <| cb_len ⟨_, .inr rfl, ?_⟩
      rw [List.length_map]
      refine nx_sa <| ed_op <| ed_var rfl <| ed_int <| od_ix ⟨_, rfl, ?_⟩
      refine nx_o2F rfl (by decide +kernel) (by decide +kernel) ?_
      refine nx_kF rfl (by decide +kernel) <| nx_kF rfl (by decide +kernel) ?_
      refine nx_o2F rfl (by decide +kernel) (by decide +kernel) ?_
      refine nx_sa <| ed_call <| ea_cons <| ed_var rfl <| ea_cons <| ed_var rfl <| ea_cons <| ed_op <| ed_var rfl <| ed_int <| od_ix ⟨_, rfl, ?_⟩
      refine ea_nil ⟨((M, g), c), ⟨few, ok, wf.2, h1, rfl⟩, fun d hd => ?_⟩
      cases hd
      refine nx_sml fun a ha hb => ?_
      refine nx_sfM (List.range M.n) dN (fun _ => true) (fun x => .bl (satW M (.all r c) x)) (δ0 := [.dat (dM M), .dat (names g.N), .dat (dW g.N (.all r c)), .dat (.int (M.n : Int)), .dat (.str "all"), .no, .no, .dat (dRow M c), .no, .no, .no, .no, .no]) (s := 8) (a := a) rl (SLe.refl _) (ei_range1 <| ea_cons <| ed_var rfl <| ea_nil ⟨_, rfl, fw, rfl⟩) (fun x hx w acc hz ew N hN => ?_) ?_
      · refine nx_sa ?_
        refine ed_lcF (List.range M.n) dN (fun y => rel M r x y) (fun y => .bl (satW M c y)) rl (ei_range1 <| ea_cons <| ed_var rfl <| ea_nil ⟨_, rfl, fw, rfl⟩) (fun y hy a' w' ew' ha' hb' => ?_) ?_
        · have hlt : y < M.n := List.mem_range.mp hy
          refine eb_B <| ed_call <| ea_cons <| ed_var rfl <| ea_cons <| ed_var rfl <| ea_cons <| ed_op <| ed_var rfl <| ed_int <| od_ix ⟨_, rfl, ?_⟩
          refine ea_cons <| ed_var rfl <| ea_cons <| ed_var rfl <| ea_nil ⟨((M, g), r, x, y), ⟨ok, wf.1, rfl⟩, fun d hd => ⟨_, hd, rfl, fun _ => ?_⟩⟩
          exact ed_op <| ed_var rfl <| ed_var rfl <| od_ix ⟨_, row_get hlt, rfl⟩
        · refine nx_if <| eb_kd false rfl (by decide +kernel) ⟨(fun e => by cases e), fun _ => ?_⟩
          refine nx_app (a := a) rfl hb (by omega) ⟨⟩ <| ed_cb <| ea_cons <| ed_var rfl <| ea_nil <| cb_all ⟨((List.range M.n).filter fun y => rel M r x y).map (satW M c), by rw [List.map_map]; rfl, ?_⟩
          refine hN _ ?_
          rw [if_pos rfl]
          exact .same <| .same <| .same <| .same <| .same <| .same <| .same <| .same <| .same <| .no <| .no <| .same <| .same .nil
      · rw [filter_true]
        exact nx_retml (a := a) rfl ha q rfl
end
end Kw

/-! _law_true -/
namespace Kw
open PySem PySem.Spec PyProof.Rows L2 Evl
section
variable {PR : Program} {w : World} {K : PySem.W.Frag} {mg : Str → Option Value} {base : Heap} {aA : Addr}
theorem eb_bb {c : Cn} {δ : List SD} {Hb : Hp} {i j : Nat} (a b : Bool) (hi : δ[i]? = some (.dat (.bl a))) (hj : δ[j]? = some (.dat (.bl b))) : Eb K c δ Hb (tAnd (tB (tVar i)) (tNot (tB (tVar j)))) fun r => r = (a && !b) := by
  refine eb_and <| eb_B <| ed_var hi ⟨_, rfl, fun h => ?_, fun h => ?_⟩
  · refine eb_not <| eb_B <| ed_var hj ⟨_, rfl, ?_⟩
    rw [h, Bool.true_and]
  · rw [h, Bool.false_and]
theorem pl_row (M : Mo) (c : WC) : Da.pl 40 (dRow M c) = true := by
  show Da.plAll 39 _ = true
  exact Da.plAll_of fun d hd => by
    obtain ⟨x, _, rfl⟩ := List.mem_map.mp hd
    rfl
theorem eqvAll_bools : ∀ as bs : List Bool, PyData.eqvAll (Da.pyAll (as.map Da.bl)) (Da.pyAll (bs.map Da.bl)) = (as == bs)
  | [], [] => by simp [Da.pyAll, PyData.eqvAll]
  | [], b :: bs => by simp [Da.pyAll, PyData.eqvAll]
  | a :: as, [] => by simp [Da.pyAll, PyData.eqvAll]
  | a :: as, b :: bs => by
    rw [List.map_cons, List.map_cons, Da.pyAll, Da.pyAll, PyData.eqvAll, eqvAll_bools as bs]
    simp only [Da.py, PyData.eqv]
    rfl
theorem eqv_rows (M : Mo) (c d : WC) : PyData.eqv (dRow M c).py (dRow M d).py = ((List.range M.n).map (satW M c) == (List.range M.n).map (satW M d)) := by
  show PyData.eqv (.list _) (.list _) = _
  rw [PyData.eqv, ← eqvAll_bools, List.map_map, List.map_map]
  rfl
def preTr (n : Nat) (p : (Mo × Gp) × WS) (ds : List Da) : Prop := p.1.1.ok p.1.2.ni ∧ p.1.2.ok ∧ p.2.wf p.1.2 ∧ p.2.depth < n ∧ ds = [dM p.1.1, names p.1.2.N, dS p.1.2.N p.2]
def postTr (p : (Mo × Gp) × WS) (d : Da) : Prop := d = .bl (trueS p.1.1 p.2)
theorem cl__law_true (T : Txt K mg aA) (n : Nat) : Cl PR w K mg base (n + 2) "_law_true" ["_law_model_here", "_law_names_here", "_law_tree"] (spP K (preTr n) postTr) := by
  obtain ⟨f1, fd1, G__law_belongs, m__law_belongs, k__law_belongs, b__law_belongs⟩ := cl__law_belongs (PR := PR) (w := w) (base := base) T n
  obtain ⟨f2, fd2, G__law_linked, m__law_linked, k__law_linked, b__law_linked⟩ := cl__law_linked (PR := PR) (w := w) (base := base) T
  refine okP T.d__law_true sc__law_true (fun p ds h => by rw [h.2.2.2.2]; rfl) (fun _ _ _ _ _ _ us hl => match us, hl with | [_, _, _], _ => rfl) (fun f cdv A outer s H E hr => ?_)
  have hu := hu65 hr
  refine ⟨_, (pss_cons (ps_set (i := 3) sc__law_true.nd rfl (Or.inl rfl) (pe_ix (ix_k (K := K) rfl) (pv 2) pe_int (fun _ _ => rfl)))
    (pss_cons (ps_set (i := 4) sc__law_true.nd rfl (Or.inl rfl) (pe_listRg rfl rfl T.mlist (prg_1 rfl T.mrange (pe_callB call_len_seq rfl T.mlen PySem.boot_len (pa_cons (pe_ix (ix_k (K := K) rfl) (pv 0) pe_int (fun _ _ => rfl)) pa_nil)))))
    (pss_cons (ps_if (pt_cmpR (op_in_k (K := K) rfl hu) (pv 3) (pe_tup (pa_cons pe_str (pa_cons pe_str (pa_cons pe_str pa_nil)))) (by rfl)) (pss_cons (ps_set (i := 5) sc__law_true.nd rfl (Or.inr rfl) (pe_call G__law_belongs (hr.mono (by omega)) rfl m__law_belongs k__law_belongs b__law_belongs .nil pass0 (pa_cons (pv 0) (pa_cons (pv 1) (pa_cons (pe_ix (ix_k (K := K) rfl) (pv 2) pe_int (fun _ _ => rfl)) pa_nil)))))
    (pss_cons (ps_set (i := 6) sc__law_true.nd rfl (Or.inr rfl) (pe_call G__law_belongs (hr.mono (by omega)) rfl m__law_belongs k__law_belongs b__law_belongs .nil pass0 (pa_cons (pv 0) (pa_cons (pv 1) (pa_cons (pe_ix (ix_k (K := K) rfl) (pv 2) pe_int (fun _ _ => rfl)) pa_nil)))))
    (pss_cons (ps_if (pt_cmpR op_eq (pv 3) pe_str (nomark _)) (pss_one (ps_ret (pe_callB (cr_all rfl) rfl T.mall (by decide +kernel) (pa_cons (pe_lc (own := [("_law_thing", 9)]) (g := gName 9) (tt := tYes) rfl sc__law_true.nd (pi_list (pv 4)) (blkOk_by (own := [("_law_thing", 9)]) (N := n__law_true) (sc := defScope s__law_true) (by decide +kernel)) (fun _ _ _ _ _ => pg_name (i := 9) sc__law_true.nd rfl (Or.inl rfl)) (fun _ _ _ _ _ => pts_nil) (fun _ _ _ _ _ => (pe_not (pe_and (pe_ix (ix_k (K := K) rfl) (pv 5) (pv 9) (fun _ _ => rfl)) (pe_one (pe_ix (ix_k (K := K) rfl) (pv 6) (pv 9) (fun _ _ => rfl))))))) pa_nil)))) pss_nil)
    (pss_cons (ps_if (pt_cmpR op_eq (pv 3) pe_str (nomark _)) (pss_one (ps_ret (pe_cmpR (op_eqD hr.units) (pv 5) (pv 6) (nomark _)))) pss_nil)
    (pss_one (ps_ret (pe_callB (cr_all rfl) rfl T.mall (by decide +kernel) (pa_cons (pe_lc (own := [("_law_thing", 9)]) (g := gName 9) rfl sc__law_true.nd (pi_list (pv 4)) (blkOk_by (own := [("_law_thing", 9)]) (N := n__law_true) (sc := defScope s__law_true) (by decide +kernel)) (fun _ _ _ _ _ => pg_name (i := 9) sc__law_true.nd rfl (Or.inl rfl)) (fun _ _ _ _ _ => (pts_one (pt_val (pe_ix (ix_k (K := K) rfl) (pv 5) (pv 9) (fun _ _ => rfl))))) (fun _ _ _ _ _ => (pe_ix (ix_k (K := K) rfl) (pv 6) (pv 9) (fun _ _ => rfl)))) pa_nil)))))))) pss_nil)
    (pss_cons (ps_if (PW.pt (pw_or (pt_cmpR op_eq (pv 3) pe_str (nomark _)) (pw_or1 (pt_cmpR op_eq (pv 3) pe_str (nomark _))))) (pss_cons (ps_set (i := 7) sc__law_true.nd rfl (Or.inl rfl) (pe_call G__law_belongs (hr.mono (by omega)) rfl m__law_belongs k__law_belongs b__law_belongs .nil pass0 (pa_cons (pv 0) (pa_cons (pv 1) (pa_cons (pe_ix (ix_k (K := K) rfl) (pv 2) pe_int (fun _ _ => rfl)) pa_nil)))))
    (pss_cons (ps_set (i := 8) sc__law_true.nd rfl (Or.inr rfl) (pe_ix (ix_k (K := K) rfl) (pv 2) pe_int (fun _ _ => rfl)))
    (pss_cons (ps_if (pt_cmpR op_eq (pv 3) pe_str (nomark _)) (pss_one (ps_set (i := 8) sc__law_true.nd rfl (Or.inr rfl) (pe_tup (pa_cons (pe_ix (ix_k (K := K) rfl) (pv 8) pe_int (fun _ _ => rfl)) (pa_cons (pe_not (pe_ix (ix_k (K := K) rfl) (pv 8) pe_int (fun _ _ => rfl))) pa_nil))))) pss_nil)
    (pss_cons (ps_for PassesOwn.never rfl (pi_list (pv 4)) (pg_name (i := 9) sc__law_true.nd rfl (Or.inr rfl)) (pss_one (ps_if (PW.pt (pw_and (pt_val (pe_callB (cr_any rfl) rfl T.many (by decide +kernel) (pa_cons (pe_lc (own := [("_law_other", 12)]) (g := gName 12) (tt := tYes) rfl sc__law_true.nd (pi_list (pv 4)) (blkOk_by (own := [("_law_other", 12)]) (N := n__law_true) (sc := defScope s__law_true) (by decide +kernel)) (fun _ _ _ _ _ => pg_name (i := 12) sc__law_true.nd rfl (Or.inl rfl)) (fun _ _ _ _ _ => pts_nil) (fun _ _ _ _ _ => (pe_call G__law_linked (hr.mono (by omega)) rfl m__law_linked k__law_linked b__law_linked .nil pass0 (pa_cons (pv 0) (pa_cons (pv 1) (pa_cons (pv 8) (pa_cons (pv 9) (pa_cons (pv 12) pa_nil)))))))) pa_nil))) (pw_and1 (pt_not (pt_val (pe_ix (ix_k (K := K) rfl) (pv 7) (pv 9) (fun _ _ => rfl))))))) (pss_one (ps_ret pe_bl)) pss_nil)))
    (pss_one (ps_ret pe_bl)))))) pss_nil)
    (pss_cons (ps_if (PW.pt (pw_or (pt_cmpR op_eq (pv 3) pe_str (nomark _)) (pw_or1 (pt_cmpR op_eq (pv 3) pe_str (nomark _))))) (pss_cons (ps_set (i := 10) sc__law_true.nd rfl (Or.inl rfl) (pe_ifExp (pt_cmpR op_eq (pv 3) pe_str (nomark _)) (pe_tup (pa_cons (pe_ix (ix_k (K := K) rfl) (pv 2) pe_int (fun _ _ => rfl)) (pa_cons pe_bl pa_nil))) (pe_ix (ix_k (K := K) rfl) (pv 2) pe_int (fun _ _ => rfl))))
    (pss_cons (ps_set (i := 11) sc__law_true.nd rfl (Or.inl rfl) (pe_ifExp (pt_cmpR op_eq (pv 3) pe_str (nomark _)) (pe_tup (pa_cons (pe_ix (ix_k (K := K) rfl) (pv 2) pe_int (fun _ _ => rfl)) (pa_cons pe_bl pa_nil))) (pe_ix (ix_k (K := K) rfl) (pv 2) pe_int (fun _ _ => rfl))))
    (pss_cons (ps_for PassesOwn.never rfl (pi_list (pv 4)) (pg_name (i := 9) sc__law_true.nd rfl (Or.inr rfl)) (pss_one (ps_for PassesOwn.never rfl (pi_list (pv 4)) (pg_name (i := 12) sc__law_true.nd rfl (Or.inl rfl)) (pss_cons (ps_set (i := 5) sc__law_true.nd rfl (Or.inr rfl) (pe_call G__law_linked (hr.mono (by omega)) rfl m__law_linked k__law_linked b__law_linked .nil pass0 (pa_cons (pv 0) (pa_cons (pv 1) (pa_cons (pv 10) (pa_cons (pv 9) (pa_cons (pv 12) pa_nil)))))))
    (pss_cons (ps_set (i := 6) sc__law_true.nd rfl (Or.inr rfl) (pe_call G__law_linked (hr.mono (by omega)) rfl m__law_linked k__law_linked b__law_linked .nil pass0 (pa_cons (pv 0) (pa_cons (pv 1) (pa_cons (pv 11) (pa_cons (pv 9) (pa_cons (pv 12) pa_nil)))))))
    (pss_one (ps_if (PW.pt (pw_or (PW.pt (pw_and (pt_val (pv 5)) (pw_and1 (pt_not (pt_val (pv 6)))))) (pw_or1 (PW.pt (pw_and (pt_cmpR op_eq (pv 3) pe_str (nomark _)) (pw_and (pt_val (pv 6)) (pw_and1 (pt_not (pt_val (pv 5)))))))))) (pss_one (ps_ret pe_bl)) pss_nil)))))))
    (pss_one (ps_ret pe_bl))))) pss_nil)
    (pss_cons (ps_if (pt_cmpR op_eq (pv 3) pe_str (nomark _)) (pss_one (ps_ret (pe_ix (ix_k (K := K) rfl) (pe_call G__law_belongs (hr.mono (by omega)) rfl m__law_belongs k__law_belongs b__law_belongs .nil pass0 (pa_cons (pv 0) (pa_cons (pv 1) (pa_cons (pe_ix (ix_k (K := K) rfl) (pv 2) pe_int (fun _ _ => rfl)) pa_nil)))) (pe_ix (ix_k (K := K) rfl) (pe_ix (ix_k (K := K) rfl) (pv 0) pe_int (fun _ _ => rfl)) (pe_lix (K := K) rfl (pe_ix (ix_k (K := K) rfl) (pv 1) pe_int (fun _ _ => rfl)) (pa_cons (pe_ix (ix_k (K := K) rfl) (pv 2) pe_int (fun _ _ => rfl)) pa_nil)) (fun _ _ => rfl)) (fun _ _ => rfl)))) pss_nil)
    (pss_cons (ps_if (pt_cmpR op_eq (pv 3) pe_str (nomark _)) (pss_cons (ps_set (i := 10) sc__law_true.nd rfl (Or.inl rfl) (pe_ix (ix_k (K := K) rfl) (pe_ix (ix_k (K := K) rfl) (pv 0) pe_int (fun _ _ => rfl)) (pe_lix (K := K) rfl (pe_ix (ix_k (K := K) rfl) (pv 1) pe_int (fun _ _ => rfl)) (pa_cons (pe_ix (ix_k (K := K) rfl) (pv 2) pe_int (fun _ _ => rfl)) pa_nil)) (fun _ _ => rfl)))
    (pss_one (ps_ret (pe_call G__law_linked (hr.mono (by omega)) rfl m__law_linked k__law_linked b__law_linked .nil pass0 (pa_cons (pv 0) (pa_cons (pv 1) (pa_cons (pe_tup (pa_cons (pe_ix (ix_k (K := K) rfl) (pv 2) pe_int (fun _ _ => rfl)) (pa_cons pe_bl pa_nil))) (pa_cons (pv 10) (pa_cons (pe_ix (ix_k (K := K) rfl) (pe_ix (ix_k (K := K) rfl) (pv 0) pe_int (fun _ _ => rfl)) (pe_lix (K := K) rfl (pe_ix (ix_k (K := K) rfl) (pv 1) pe_int (fun _ _ => rfl)) (pa_cons (pe_ix (ix_k (K := K) rfl) (pv 2) pe_int (fun _ _ => rfl)) pa_nil)) (fun _ _ => rfl)) pa_nil))))))))) pss_nil)
    (pss_one (ps_ret pe_bl))))))))), ?_⟩
  rintro ⟨⟨M, g⟩, st⟩ ds Z wh Q ⟨mok, ok, wf, hd, rfl⟩ q
  replace hd : st.depth < n := hd
  replace mok : M.ok g.ni := mok
  have few := mok.few
  have fw : M.n ≤ 100000 := by omega
  have rl : (List.range M.n).length ≤ 50000 := rng_len few
  -- the loops over things and their partners
  cases st with
  | equals c1 c2 =>
    have h1 : c1.depth < n := by have : max c1.depth c2.depth < n := hd; omega
    have h2 : c2.depth < n := by have : max c1.depth c2.depth < n := hd; omega
    refine nx_sa <| ed_op <| ed_var rfl <| ed_int <| od_ix ⟨_, rfl, ?_⟩
    refine nx_sa <| ed_listRg <| ed_cb <| ea_cons <| ed_op <| ed_var rfl <| ed_int <| od_ix ⟨_, rfl, ?_⟩
    refine ea_nil <| cb_len ⟨_, .inr rfl, _, rfl, by rw [List.length_map]; exact fw, ?_⟩
    rw [List.length_map]
    refine nx_si <| eb_inS (ed_var rfl ⟨rfl, ea_cons <| ed_str <| ea_cons <| ed_str <| ea_cons <| ed_str <| ea_nil ⟨[_, _, _], rfl, sm rfl, by decide +kernel, by decide +kernel, fun _ => ?_, fun e => absurd e (by decide +kernel)⟩⟩)
    refine nx_sa <| ed_call <| ea_cons <| ed_var rfl <| ea_cons <| ed_var rfl <| ea_cons <| ed_op <| ed_var rfl <| ed_int <| od_ix ⟨_, rfl, ?_⟩
    refine ea_nil ⟨((M, g), c1), ⟨few, ok, wf.1, h1, rfl⟩, fun d hd => ?_⟩
    cases hd
    refine nx_sa <| ed_call <| ea_cons <| ed_var rfl <| ea_cons <| ed_var rfl <| ea_cons <| ed_op <| ed_var rfl <| ed_int <| od_ix ⟨_, rfl, ?_⟩
    refine ea_nil ⟨((M, g), c2), ⟨few, ok, wf.2, h2, rfl⟩, fun d hd => ?_⟩
    cases hd
    refine nx_kF rfl (by decide +kernel) <| nx_kT rfl (by decide +kernel) ?_
    exact nx_ret q <| ed_op <| ed_var rfl <| ed_var rfl <| od_eqD ⟨pl_row _ _, pl_row _ _, congrArg Da.bl (eqv_rows M c1 c2)⟩
  | apart c1 c2 =>
    have h1 : c1.depth < n := by have : max c1.depth c2.depth < n := hd; omega
    have h2 : c2.depth < n := by have : max c1.depth c2.depth < n := hd; omega
    refine nx_sa <| ed_op <| ed_var rfl <| ed_int <| od_ix ⟨_, rfl, ?_⟩
    refine nx_sa <| ed_listRg <| ed_cb <| ea_cons <| ed_op <| ed_var rfl <| ed_int <| od_ix ⟨_, rfl, ?_⟩
    refine ea_nil <| cb_len ⟨_, .inr rfl, _, rfl, by rw [List.length_map]; exact fw, ?_⟩
    rw [List.length_map]
    refine nx_si <| eb_inS (ed_var rfl ⟨rfl, ea_cons <| ed_str <| ea_cons <| ed_str <| ea_cons <| ed_str <| ea_nil ⟨[_, _, _], rfl, sm rfl, by decide +kernel, by decide +kernel, fun _ => ?_, fun e => absurd e (by decide +kernel)⟩⟩)
    refine nx_sa <| ed_call <| ea_cons <| ed_var rfl <| ea_cons <| ed_var rfl <| ea_cons <| ed_op <| ed_var rfl <| ed_int <| od_ix ⟨_, rfl, ?_⟩
    refine ea_nil ⟨((M, g), c1), ⟨few, ok, wf.1, h1, rfl⟩, fun d hd => ?_⟩
    cases hd
    refine nx_sa <| ed_call <| ea_cons <| ed_var rfl <| ea_cons <| ed_var rfl <| ea_cons <| ed_op <| ed_var rfl <| ed_int <| od_ix ⟨_, rfl, ?_⟩
    refine ea_nil ⟨((M, g), c2), ⟨few, ok, wf.2, h2, rfl⟩, fun d hd => ?_⟩
    cases hd
    refine nx_kT rfl (by decide +kernel) ?_
    refine nx_ret q ?_
    refine ed_cb <| ea_cons ?_
    refine ed_lcM (List.range M.n) dN (fun x => .bl (!(satW M c1 x && satW M c2 x))) rl (ei_list <| ed_var rfl ⟨_, rfl, rfl⟩) (fun x hx a w ew ha hb => ?_) ?_
    · have hlt : x < M.n := List.mem_range.mp hx
      refine ed_not <| ed_and <| ed_op <| ed_var rfl <| ed_var rfl <| od_ix ⟨_, row_get hlt, _, rfl, fun h => ?_, fun h => ⟨_, rfl, ?_⟩⟩
      · refine ed_op <| ed_var rfl <| ed_var rfl <| od_ix ⟨_, row_get hlt, _, rfl, ?_⟩
        rw [h, Bool.true_and]
      · rw [h, Bool.false_and]
    · refine ea_nil <| cb_all ⟨(List.range M.n).map fun x => !(satW M c1 x && satW M c2 x), by rw [List.map_map]; rfl, rfl⟩
  | domain r c1 =>
    refine nx_sa <| ed_op <| ed_var rfl <| ed_int <| od_ix ⟨_, rfl, ?_⟩
    refine nx_sa <| ed_listRg <| ed_cb <| ea_cons <| ed_op <| ed_var rfl <| ed_int <| od_ix ⟨_, rfl, ?_⟩
    refine ea_nil <| cb_len ⟨_, .inr rfl, _, rfl, by rw [List.length_map]; exact fw, ?_⟩
    rw [List.length_map]
    refine nx_si <| eb_inS (ed_var rfl ⟨rfl, ea_cons <| ed_str <| ea_cons <| ed_str <| ea_cons <| ed_str <| ea_nil ⟨[_, _, _], rfl, sm rfl, by decide +kernel, by decide +kernel, fun e => absurd e (by decide +kernel), fun _ => ?_⟩⟩)
    refine nx_o2T true rfl (by decide +kernel) (fun e => by cases e) ?_
    refine nx_sa <| ed_call <| ea_cons <| ed_var rfl <| ea_cons <| ed_var rfl <| ea_cons <| ed_op <| ed_var rfl <| ed_int <| od_ix ⟨_, rfl, ?_⟩
    refine ea_nil ⟨((M, g), c1), ⟨few, ok, wf.2, hd, rfl⟩, fun d hd => ?_⟩
    cases hd
    refine nx_sa <| ed_op <| ed_var rfl <| ed_int <| od_ix ⟨_, rfl, ?_⟩
    refine nx_kF rfl (by decide +kernel) ?_
    refine nx_sfP (List.range M.n) dN (fun x => !(((List.range M.n).map fun y => rel M r x y).any id && !satW M c1 x)) (δ0 := [.dat (dM M), .dat (names g.N), .dat (dS g.N (.domain r c1)), .dat (.str "domain"), .dat (.lst (upto M.things.length)), .no, .no, .dat (dRow M c1), .dat (dRw g.N r), .no, .no, .no, .no]) (SLe.refl _) (ei_list <| ed_var rfl ⟨_, rfl, rfl⟩) (fun x hx w ew N hN => ?_) (fun hall => ?_)
    · have hlt : x < M.n := List.mem_range.mp hx
      refine nx_i1 <| eb_and <| eb_B <| ed_cb <| ea_cons ?_
      refine ed_lcM (List.range M.n) dN (fun y => .bl (rel M r x y)) rl (ei_list <| ed_var rfl ⟨_, rfl, rfl⟩) (fun y hy a' w' ew' ha' hb' => ?_) ?_
      · exact ed_call <| ea_cons <| ed_var rfl <| ea_cons <| ed_var rfl <| ea_cons <| ed_var rfl <| ea_cons <| ed_var rfl <| ea_cons <| ed_var rfl <| ea_nil ⟨((M, g), r, x, y), ⟨ok, wf.1, rfl⟩, fun d hd => hd⟩
      · refine ea_nil <| cb_any ⟨(List.range M.n).map fun y => rel M r x y, by rw [List.map_map]; rfl, _, rfl, fun h1 => ?_, fun h1 => ⟨(fun h => by cases h), fun _ => ?_⟩⟩
        · refine eb_not <| eb_B <| ed_op <| ed_var rfl <| ed_var rfl <| od_ix ⟨_, row_get hlt, _, rfl, fun h2 => ?_, fun h2 => ?_⟩
          · refine nx_ret q.wt <| ed_bl ?_
            show Da.bl false = Da.bl _
            congr 1
            refine Eq.symm ?_
            show ((List.range M.n).all fun x => !(((List.range M.n).map fun y => rel M r x y).any id && !satW M c1 x)) = false
            rw [List.all_eq_false]
            refine ⟨x, hx, ?_⟩
            rw [h1, h2]
            exact Bool.false_ne_true
          · refine hN _ (.same <| .same <| .same <| .same <| .same <| .same <| .same <| .same <| .same <| .no <| .same <| .same <| .same .nil) ?_
            rw [h2, Bool.and_false]
            rfl
        · refine hN _ (.same <| .same <| .same <| .same <| .same <| .same <| .same <| .same <| .same <| .no <| .same <| .same <| .same .nil) ?_
          rw [h1, Bool.false_and]
          rfl
    · refine nx_ret q <| ed_bl ?_
      show Da.bl true = Da.bl _
      congr 1
      exact (List.all_eq_true.mpr hall).symm
  | range r c1 =>
    refine nx_sa <| ed_op <| ed_var rfl <| ed_int <| od_ix ⟨_, rfl, ?_⟩
    refine nx_sa <| ed_listRg <| ed_cb <| ea_cons <| ed_op <| ed_var rfl <| ed_int <| od_ix ⟨_, rfl, ?_⟩
    refine ea_nil <| cb_len ⟨_, .inr rfl, _, rfl, by rw [List.length_map]; exact fw, ?_⟩
    rw [List.length_map]
    refine nx_si <| eb_inS (ed_var rfl ⟨rfl, ea_cons <| ed_str <| ea_cons <| ed_str <| ea_cons <| ed_str <| ea_nil ⟨[_, _, _], rfl, sm rfl, by decide +kernel, by decide +kernel, fun e => absurd e (by decide +kernel), fun _ => ?_⟩⟩)
    refine nx_o2T false rfl (by decide +kernel) (fun _ => by decide +kernel) ?_
    refine nx_sa <| ed_call <| ea_cons <| ed_var rfl <| ea_cons <| ed_var rfl <| ea_cons <| ed_op <| ed_var rfl <| ed_int <| od_ix ⟨_, rfl, ?_⟩
    refine ea_nil ⟨((M, g), c1), ⟨few, ok, wf.2, hd, rfl⟩, fun d hd => ?_⟩
    cases hd
    refine nx_sa <| ed_op <| ed_var rfl <| ed_int <| od_ix ⟨_, rfl, ?_⟩
    refine nx_kT rfl (by decide +kernel) ?_
    refine nx_asg <| ed_tup <| ea_cons <| ed_op <| ed_var rfl <| ed_int <| od_ix ⟨_, rfl, ?_⟩
    refine ea_cons <| ed_not <| ed_op <| ed_var rfl <| ed_int <| od_ix ⟨_, rfl, _, rfl, ea_nil ⟨sm rfl, ?_⟩⟩
    refine nx_sfP (List.range M.n) dN (fun x => !(((List.range M.n).map fun y => rel M (r.1, !r.2) x y).any id && !satW M c1 x)) (δ0 := [.dat (dM M), .dat (names g.N), .dat (dS g.N (.range r c1)), .dat (.str "range"), .dat (.lst (upto M.things.length)), .no, .no, .dat (dRow M c1), .dat (dRw g.N (r.1, !r.2)), .no, .no, .no, .no]) (SLe.refl _) (ei_list <| ed_var rfl ⟨_, rfl, rfl⟩) (fun x hx w ew N hN => ?_) (fun hall => ?_)
    · have hlt : x < M.n := List.mem_range.mp hx
      refine nx_i1 <| eb_and <| eb_B <| ed_cb <| ea_cons ?_
      refine ed_lcM (List.range M.n) dN (fun y => .bl (rel M (r.1, !r.2) x y)) rl (ei_list <| ed_var rfl ⟨_, rfl, rfl⟩) (fun y hy a' w' ew' ha' hb' => ?_) ?_
      · exact ed_call <| ea_cons <| ed_var rfl <| ea_cons <| ed_var rfl <| ea_cons <| ed_var rfl <| ea_cons <| ed_var rfl <| ea_cons <| ed_var rfl <| ea_nil ⟨((M, g), (r.1, !r.2), x, y), ⟨ok, wf.1, rfl⟩, fun d hd => hd⟩
      · refine ea_nil <| cb_any ⟨(List.range M.n).map fun y => rel M (r.1, !r.2) x y, by rw [List.map_map]; rfl, _, rfl, fun h1 => ?_, fun h1 => ⟨(fun h => by cases h), fun _ => ?_⟩⟩
        · refine eb_not <| eb_B <| ed_op <| ed_var rfl <| ed_var rfl <| od_ix ⟨_, row_get hlt, _, rfl, fun h2 => ?_, fun h2 => ?_⟩
          · refine nx_ret q.wt <| ed_bl ?_
            show Da.bl false = Da.bl _
            congr 1
            refine Eq.symm ?_
            show ((List.range M.n).all fun x => !(((List.range M.n).map fun y => rel M (r.1, !r.2) x y).any id && !satW M c1 x)) = false
            rw [List.all_eq_false]
            refine ⟨x, hx, ?_⟩
            rw [h1, h2]
            exact Bool.false_ne_true
          · refine hN _ (.same <| .same <| .same <| .same <| .same <| .same <| .same <| .same <| .same <| .no <| .same <| .same <| .same .nil) ?_
            rw [h2, Bool.and_false]
            rfl
        · refine hN _ (.same <| .same <| .same <| .same <| .same <| .same <| .same <| .same <| .same <| .no <| .same <| .same <| .same .nil) ?_
          rw [h1, Bool.false_and]
          rfl
    · refine nx_ret q <| ed_bl ?_
      show Da.bl true = Da.bl _
      congr 1
      exact (List.all_eq_true.mpr hall).symm
  | under r s1 =>
    refine nx_sa <| ed_op <| ed_var rfl <| ed_int <| od_ix ⟨_, rfl, ?_⟩
    refine nx_sa <| ed_listRg <| ed_cb <| ea_cons <| ed_op <| ed_var rfl <| ed_int <| od_ix ⟨_, rfl, ?_⟩
    refine ea_nil <| cb_len ⟨_, .inr rfl, _, rfl, by rw [List.length_map]; exact fw, ?_⟩
    rw [List.length_map]
    refine nx_si <| eb_inS (ed_var rfl ⟨rfl, ea_cons <| ed_str <| ea_cons <| ed_str <| ea_cons <| ed_str <| ea_nil ⟨[_, _, _], rfl, sm rfl, by decide +kernel, by decide +kernel, fun e => absurd e (by decide +kernel), fun _ => ?_⟩⟩)
    refine nx_o2F rfl (by decide +kernel) (by decide +kernel) ?_
    refine nx_o2T true rfl (by decide +kernel) (fun e => by cases e) ?_
    refine nx_sa <| ed_if <| eb_kd false rfl (by decide +kernel) ⟨(fun e => by cases e), fun _ => ?_⟩
    refine ed_op <| ed_var rfl <| ed_int <| od_ix ⟨_, rfl, ?_⟩
    refine nx_sa <| ed_if <| eb_kd false rfl (by decide +kernel) ⟨(fun e => by cases e), fun _ => ?_⟩
    refine ed_op <| ed_var rfl <| ed_int <| od_ix ⟨_, rfl, ?_⟩
    refine nx_sfP (List.range M.n) dN (fun x => (List.range M.n).all fun y => !(rel M r x y && !rel M s1 x y)) (δ0 := [.dat (dM M), .dat (names g.N), .dat (dS g.N (.under r s1)), .dat (.str "under"), .dat (.lst (upto M.things.length)), .no, .no, .no, .no, .no, .dat (dRw g.N r), .dat (dRw g.N s1), .no]) (SLe.refl _) (ei_list <| ed_var rfl ⟨_, rfl, rfl⟩) (fun x hx w ew N hN => ?_) (fun hall => ?_)
    · refine nx_forP (List.range M.n) dN (fun y => !(rel M r x y && !rel M s1 x y)) (δ0 := [.dat (dM M), .dat (names g.N), .dat (dS g.N (.under r s1)), .dat (.str "under"), .dat (.lst (upto M.things.length)), .no, .no, .no, .no, .dat (dN x), .dat (dRw g.N r), .dat (dRw g.N s1), .no]) (SLe.refl _) (ei_list <| ed_var rfl ⟨_, rfl, rfl⟩) (fun y hy w2 ew2 N2 hN2 => ?_) (fun hall => ?_)
      · refine nx_sa <| ed_call <| ea_cons <| ed_var rfl <| ea_cons <| ed_var rfl <| ea_cons <| ed_var rfl <| ea_cons <| ed_var rfl <| ea_cons <| ed_var rfl <| ea_nil ⟨((M, g), r, x, y), ⟨ok, wf.1, rfl⟩, fun d hd => ?_⟩
        cases hd
        refine nx_sa <| ed_call <| ea_cons <| ed_var rfl <| ea_cons <| ed_var rfl <| ea_cons <| ed_var rfl <| ea_cons <| ed_var rfl <| ea_cons <| ed_var rfl <| ea_nil ⟨((M, g), s1, x, y), ⟨ok, wf.2, rfl⟩, fun d hd => ?_⟩
        cases hd
        refine nx_i1 <| eb_or <| (eb_bb (rel M r x y) (rel M s1 x y) rfl rfl).mono fun b eb => ?_
        subst eb
        refine ⟨fun h => ⟨(fun _ => ?_), fun e => by cases e⟩, fun h => ?_⟩
        · refine nx_ret q.wt.wt <| ed_bl ?_
          show Da.bl false = Da.bl _
          congr 1
          refine Eq.symm ?_
          show ((List.range M.n).all fun x => (List.range M.n).all fun y => !(rel M r x y && !rel M s1 x y)) = false
          rw [List.all_eq_false]
          refine ⟨x, hx, ?_⟩
          rw [Bool.not_eq_true, List.all_eq_false]
          refine ⟨y, hy, ?_⟩
          rw [h]
          exact Bool.false_ne_true
        · refine eb_and <| eb_kd false rfl (by decide +kernel) ⟨(fun e => by cases e), fun _ => ⟨(fun e => by cases e), fun _ => ?_⟩⟩
          refine hN2 _ (.same <| .same <| .same <| .same <| .same <| .no <| .no <| .same <| .same <| .same <| .same <| .same <| .no .nil) ?_
          rw [h]
          rfl
      · exact hN _ (.same <| .same <| .same <| .same <| .same <| .same <| .same <| .same <| .same <| .no <| .same <| .same <| .same .nil) (List.all_eq_true.mpr hall)
    · refine nx_ret q <| ed_bl ?_
      show Da.bl true = Da.bl _
      congr 1
      exact (List.all_eq_true.mpr hall).symm
  | inverse r s1 =>
    refine nx_sa <| ed_op <| ed_var rfl <| ed_int <| od_ix ⟨_, rfl, ?_⟩
    refine nx_sa <| ed_listRg <| ed_cb <| ea_cons <| ed_op <| ed_var rfl <| ed_int <| od_ix ⟨_, rfl, ?_⟩
    refine ea_nil <| cb_len ⟨_, .inr rfl, _, rfl, by rw [List.length_map]; exact fw, ?_⟩
    rw [List.length_map]
    refine nx_si <| eb_inS (ed_var rfl ⟨rfl, ea_cons <| ed_str <| ea_cons <| ed_str <| ea_cons <| ed_str <| ea_nil ⟨[_, _, _], rfl, sm rfl, by decide +kernel, by decide +kernel, fun e => absurd e (by decide +kernel), fun _ => ?_⟩⟩)
    refine nx_o2F rfl (by decide +kernel) (by decide +kernel) ?_
    refine nx_o2T false rfl (by decide +kernel) (fun _ => by decide +kernel) ?_
    refine nx_sa <| ed_if <| eb_kd true rfl (by decide +kernel) ⟨(fun _ => ?_), fun e => by cases e⟩
    refine ed_tup <| ea_cons <| ed_op <| ed_var rfl <| ed_int <| od_ix ⟨_, rfl, ea_cons <| ed_bl <| ea_nil ⟨sm rfl, ?_⟩⟩
    refine nx_sa <| ed_if <| eb_kd true rfl (by decide +kernel) ⟨(fun _ => ?_), fun e => by cases e⟩
    refine ed_tup <| ea_cons <| ed_op <| ed_var rfl <| ed_int <| od_ix ⟨_, rfl, ea_cons <| ed_bl <| ea_nil ⟨sm rfl, ?_⟩⟩
    refine nx_sfP (List.range M.n) dN (fun x => (List.range M.n).all fun y => !((rel M (r, false) x y && !rel M (s1, true) x y) || (rel M (s1, true) x y && !rel M (r, false) x y))) (δ0 := [.dat (dM M), .dat (names g.N), .dat (dS g.N (.inverse r s1)), .dat (.str "inverse"), .dat (.lst (upto M.things.length)), .no, .no, .no, .no, .no, .dat (dRw g.N (r, false)), .dat (dRw g.N (s1, true)), .no]) (SLe.refl _) (ei_list <| ed_var rfl ⟨_, rfl, rfl⟩) (fun x hx w ew N hN => ?_) (fun hall => ?_)
    · refine nx_forP (List.range M.n) dN (fun y => !((rel M (r, false) x y && !rel M (s1, true) x y) || (rel M (s1, true) x y && !rel M (r, false) x y))) (δ0 := [.dat (dM M), .dat (names g.N), .dat (dS g.N (.inverse r s1)), .dat (.str "inverse"), .dat (.lst (upto M.things.length)), .no, .no, .no, .no, .dat (dN x), .dat (dRw g.N (r, false)), .dat (dRw g.N (s1, true)), .no]) (SLe.refl _) (ei_list <| ed_var rfl ⟨_, rfl, rfl⟩) (fun y hy w2 ew2 N2 hN2 => ?_) (fun hall => ?_)
      · refine nx_sa <| ed_call <| ea_cons <| ed_var rfl <| ea_cons <| ed_var rfl <| ea_cons <| ed_var rfl <| ea_cons <| ed_var rfl <| ea_cons <| ed_var rfl <| ea_nil ⟨((M, g), (r, false), x, y), ⟨ok, wf.1, rfl⟩, fun d hd => ?_⟩
        cases hd
        refine nx_sa <| ed_call <| ea_cons <| ed_var rfl <| ea_cons <| ed_var rfl <| ea_cons <| ed_var rfl <| ea_cons <| ed_var rfl <| ea_cons <| ed_var rfl <| ea_nil ⟨((M, g), (s1, true), x, y), ⟨ok, wf.2, rfl⟩, fun d hd => ?_⟩
        cases hd
        have bad : (rel M (r, false) x y && !rel M (s1, true) x y || rel M (s1, true) x y && !rel M (r, false) x y) = true → Da.bl false = Da.bl (trueS M (.inverse r s1)) := fun h => by
          congr 1
          refine Eq.symm ?_
          show ((List.range M.n).all fun x => (List.range M.n).all fun y => !((rel M (r, false) x y && !rel M (s1, true) x y) || (rel M (s1, true) x y && !rel M (r, false) x y))) = false
          rw [List.all_eq_false]
          refine ⟨x, hx, ?_⟩
          rw [Bool.not_eq_true, List.all_eq_false]
          refine ⟨y, hy, ?_⟩
          rw [h]
          exact Bool.false_ne_true
        refine nx_i1 <| eb_or <| (eb_bb (rel M (r, false) x y) (rel M (s1, true) x y) rfl rfl).mono fun b eb => ?_
        subst eb
        refine ⟨fun h => ⟨(fun _ => ?_), fun e => by cases e⟩, fun h => ?_⟩
        · exact nx_ret q.wt.wt <| ed_bl (bad (by rw [h, Bool.true_or]))
        · refine eb_and <| eb_kd true rfl (by decide +kernel) ⟨(fun _ => ?_), fun e => by cases e⟩
          refine (eb_bb (rel M (s1, true) x y) (rel M (r, false) x y) rfl rfl).mono fun b eb => ?_
          subst eb
          refine ⟨fun h2 => ?_, fun h2 => ?_⟩
          · exact nx_ret q.wt.wt <| ed_bl (bad (by rw [h2, Bool.or_true]))
          · refine hN2 _ (.same <| .same <| .same <| .same <| .same <| .no <| .no <| .same <| .same <| .same <| .same <| .same <| .no .nil) ?_
            rw [h, h2]
            rfl
      · exact hN _ (.same <| .same <| .same <| .same <| .same <| .same <| .same <| .same <| .same <| .no <| .same <| .same <| .same .nil) (List.all_eq_true.mpr hall)
    · refine nx_ret q <| ed_bl ?_
      show Da.bl true = Da.bl _
      congr 1
      exact (List.all_eq_true.mpr hall).symm
  | qu qq =>
    cases qq with
    | never =>
      refine nx_sa <| ed_op <| ed_var rfl <| ed_int <| od_ix ⟨_, rfl, ?_⟩
      refine nx_sa <| ed_listRg <| ed_cb <| ea_cons <| ed_op <| ed_var rfl <| ed_int <| od_ix ⟨_, rfl, ?_⟩
      refine ea_nil <| cb_len ⟨_, .inr rfl, _, rfl, by rw [List.length_map]; exact fw, ?_⟩
      rw [List.length_map]
      refine nx_si <| eb_inS (ed_var rfl ⟨rfl, ea_cons <| ed_str <| ea_cons <| ed_str <| ea_cons <| ed_str <| ea_nil ⟨[_, _, _], rfl, sm rfl, by decide +kernel, by decide +kernel, fun e => absurd e (by decide +kernel), fun _ => ?_⟩⟩)
      refine nx_o2F rfl (by decide +kernel) (by decide +kernel) ?_
      refine nx_o2F rfl (by decide +kernel) (by decide +kernel) ?_
      refine nx_kF rfl (by decide +kernel) <| nx_kF rfl (by decide +kernel) ?_
      exact nx_ret q <| ed_bl rfl
    | below c1 c2 =>
      have h1 : c1.depth < n := by have : max c1.depth c2.depth < n := hd; omega
      have h2 : c2.depth < n := by have : max c1.depth c2.depth < n := hd; omega
      refine nx_sa <| ed_op <| ed_var rfl <| ed_int <| od_ix ⟨_, rfl, ?_⟩
      refine nx_sa <| ed_listRg <| ed_cb <| ea_cons <| ed_op <| ed_var rfl <| ed_int <| od_ix ⟨_, rfl, ?_⟩
      refine ea_nil <| cb_len ⟨_, .inr rfl, _, rfl, by rw [List.length_map]; exact fw, ?_⟩
      rw [List.length_map]
      refine nx_si <| eb_inS (ed_var rfl ⟨rfl, ea_cons <| ed_str <| ea_cons <| ed_str <| ea_cons <| ed_str <| ea_nil ⟨[_, _, _], rfl, sm rfl, by decide +kernel, by decide +kernel, fun _ => ?_, fun e => absurd e (by decide +kernel)⟩⟩)
      refine nx_sa <| ed_call <| ea_cons <| ed_var rfl <| ea_cons <| ed_var rfl <| ea_cons <| ed_op <| ed_var rfl <| ed_int <| od_ix ⟨_, rfl, ?_⟩
      refine ea_nil ⟨((M, g), c1), ⟨few, ok, wf.1, h1, rfl⟩, fun d hd => ?_⟩
      cases hd
      refine nx_sa <| ed_call <| ea_cons <| ed_var rfl <| ea_cons <| ed_var rfl <| ea_cons <| ed_op <| ed_var rfl <| ed_int <| od_ix ⟨_, rfl, ?_⟩
      refine ea_nil ⟨((M, g), c2), ⟨few, ok, wf.2, h2, rfl⟩, fun d hd => ?_⟩
      cases hd
      refine nx_kF rfl (by decide +kernel) <| nx_kF rfl (by decide +kernel) ?_
      refine nx_ret q ?_
      refine ed_cb <| ea_cons ?_
      refine ed_lcF (List.range M.n) dN (satW M c1) (fun x => .bl (satW M c2 x)) rl (ei_list <| ed_var rfl ⟨_, rfl, rfl⟩) (fun x hx a w ew ha hb => ?_) ?_
      · have hlt : x < M.n := List.mem_range.mp hx
        refine eb_B <| ed_op <| ed_var rfl <| ed_var rfl <| od_ix ⟨_, row_get hlt, _, rfl, rfl, fun _ => ?_⟩
        exact ed_op <| ed_var rfl <| ed_var rfl <| od_ix ⟨_, row_get hlt, rfl⟩
      · refine ea_nil <| cb_all ⟨((List.range M.n).filter (satW M c1)).map (satW M c2), by rw [List.map_map]; rfl, rfl⟩
    | is a c1 =>
      obtain ⟨x, hx, hl⟩ := mok.ones a wf.1
      have hlen : a < g.N.is.length := Nat.lt_of_lt_of_le wf.1 ok.li
      refine nx_sa <| ed_op <| ed_var rfl <| ed_int <| od_ix ⟨_, rfl, ?_⟩
      refine nx_sa <| ed_listRg <| ed_cb <| ea_cons <| ed_op <| ed_var rfl <| ed_int <| od_ix ⟨_, rfl, ?_⟩
      refine ea_nil <| cb_len ⟨_, .inr rfl, _, rfl, by rw [List.length_map]; exact fw, ?_⟩
      rw [List.length_map]
      refine nx_si <| eb_inS (ed_var rfl ⟨rfl, ea_cons <| ed_str <| ea_cons <| ed_str <| ea_cons <| ed_str <| ea_nil ⟨[_, _, _], rfl, sm rfl, by decide +kernel, by decide +kernel, fun e => absurd e (by decide +kernel), fun _ => ?_⟩⟩)
      refine nx_o2F rfl (by decide +kernel) (by decide +kernel) ?_
      refine nx_o2F rfl (by decide +kernel) (by decide +kernel) ?_
      refine nx_kT rfl (by decide +kernel) ?_
      refine nx_ret q ?_
      refine ed_op <| ed_call <| ea_cons <| ed_var rfl <| ea_cons <| ed_var rfl <| ea_cons <| ed_op <| ed_var rfl <| ed_int <| od_ix ⟨_, rfl, ?_⟩
      refine ea_nil ⟨((M, g), c1), ⟨few, ok, wf.2, hd, rfl⟩, fun d hd => ?_⟩
      cases hd
      refine ed_op <| ed_op <| ed_var rfl <| ed_int <| od_ix ⟨_, rfl, ?_⟩
      refine ed_lix <| ed_op <| ed_var rfl <| ed_int <| od_ix ⟨_, rfl, _, rfl, ?_⟩
      refine ed_op <| ed_var rfl <| ed_int <| od_ix ⟨_, rfl, nmAt g.N.is a, a, rfl, nmAt_get hlen, fun m hm => nd_ix ok.is hlen hm, ?_⟩
      refine od_ix ⟨_, ones_get hx, od_ix ⟨_, row_get hl, ?_⟩⟩
      show Da.bl _ = Da.bl (satW M c1 (M.ones.getD a 0))
      rw [ones_D hx]
    | has a m b =>
      obtain ⟨x, hx, hl⟩ := mok.ones a wf.1
      obtain ⟨y, hy, hm⟩ := mok.ones b wf.2.2
      have hlen : a < g.N.is.length := Nat.lt_of_lt_of_le wf.1 ok.li
      have hlen2 : b < g.N.is.length := Nat.lt_of_lt_of_le wf.2.2 ok.li
      refine nx_sa <| ed_op <| ed_var rfl <| ed_int <| od_ix ⟨_, rfl, ?_⟩
      refine nx_sa <| ed_listRg <| ed_cb <| ea_cons <| ed_op <| ed_var rfl <| ed_int <| od_ix ⟨_, rfl, ?_⟩
      refine ea_nil <| cb_len ⟨_, .inr rfl, _, rfl, by rw [List.length_map]; exact fw, ?_⟩
      rw [List.length_map]
      refine nx_si <| eb_inS (ed_var rfl ⟨rfl, ea_cons <| ed_str <| ea_cons <| ed_str <| ea_cons <| ed_str <| ea_nil ⟨[_, _, _], rfl, sm rfl, by decide +kernel, by decide +kernel, fun e => absurd e (by decide +kernel), fun _ => ?_⟩⟩)
      refine nx_o2F rfl (by decide +kernel) (by decide +kernel) ?_
      refine nx_o2F rfl (by decide +kernel) (by decide +kernel) ?_
      refine nx_kF rfl (by decide +kernel) <| nx_kT rfl (by decide +kernel) ?_
      refine nx_sa <| ed_op <| ed_op <| ed_var rfl <| ed_int <| od_ix ⟨_, rfl, ?_⟩
      refine ed_lix <| ed_op <| ed_var rfl <| ed_int <| od_ix ⟨_, rfl, _, rfl, ?_⟩
      refine ed_op <| ed_var rfl <| ed_int <| od_ix ⟨_, rfl, nmAt g.N.is a, a, rfl, nmAt_get hlen, fun m hm => nd_ix ok.is hlen hm, ?_⟩
      refine od_ix ⟨_, ones_get hx, ?_⟩
      refine nx_ret q ?_
      refine ed_call <| ea_cons <| ed_var rfl <| ea_cons <| ed_var rfl <| ea_cons <| ed_tup <| ea_cons <| ed_op <| ed_var rfl <| ed_int <| od_ix ⟨_, rfl, ?_⟩
      refine ea_cons <| ed_bl <| ea_nil ⟨sm rfl, ?_⟩
      refine ea_cons <| ed_var rfl <| ea_cons <| ed_op <| ed_op <| ed_var rfl <| ed_int <| od_ix ⟨_, rfl, ?_⟩
      refine ed_lix <| ed_op <| ed_var rfl <| ed_int <| od_ix ⟨_, rfl, _, rfl, ?_⟩
      refine ed_op <| ed_var rfl <| ed_int <| od_ix ⟨_, rfl, nmAt g.N.is b, b, rfl, nmAt_get hlen2, fun m hm => nd_ix ok.is hlen2 hm, ?_⟩
      refine od_ix ⟨_, ones_get hy, ?_⟩
      refine ea_nil ⟨((M, g), (m, false), x, y), ⟨ok, wf.2.1, rfl⟩, fun d hd => ?_⟩
      cases hd
      show Da.bl _ = Da.bl (rel M (m, false) (M.ones.getD a 0) (M.ones.getD b 0))
      rw [ones_D hx, ones_D hy]
end
end Kw

/-! the law's generators, first part -/
namespace Kw
open PySem PySem.Spec PyProof.Rows L2 Evl
section
variable {PR : Program} {w : World} {K : PySem.W.Frag} {mg : Str → Option Value} {base : Heap} {aA : Addr}
/-! ### _law_take -/
def preTk (m : Nat) (ds : List Da) : Prop := 0 < m ∧ ds = [.int (m : Int)]
def postTk (m : Nat) (d : Da) : Prop := ∃ r : Nat, r < m ∧ d = .int (r : Int)
theorem cl__law_take (T : Txt K mg aA) : Cl PR w K mg base 1 "_law_take" ["_law_draws_here", "_law_many"] (spG K preTk postTk) := by
  refine okG T.d__law_take sc__law_take (fun p ds h => by rw [h.2]; rfl) (fun _ _ _ _ _ _ us hl => match us, hl with | [_, _], _ => rfl) (fun f cdv A outer s H E hr => ⟨_, (pss_cons (ps_if (pt_not (pt_truth (pv 0) (by intro _; rfl))) (pss_one (ps_ret pe_int)) pss_nil)
    (pss_one (ps_ret (pe_op op_mod (pe_callTy call_int1 rfl T.mint (by decide +kernel) (pa_cons (pe_bm PySem.F.plainAttrs_list PySem.F.slot_list_pop PySem.F.type_list_pop mt_popAt (pv 0) (pa_cons pe_int pa_nil)) pa_nil)) (pv 1))))), ?_⟩)
  rintro m ds Z a wh Q ⟨hm, rfl⟩ q
  refine fun σ H1 r ok s => ?_
  obtain ⟨x, h1, rfl, ha⟩ := s.get (i := 0) (e := .il a) rfl
  obtain ⟨ns, hns⟩ := (ok.dlz a ha).2
  obtain ⟨y, h2, v, rfl, dv⟩ := s.get (i := 1) (e := .dat (.int (m : Int))) rfl
  cases dv
  cases ns with
  | nil =>
    refine ⟨.ref a, h1, false, .inl ⟨[], SqL.of hns, rfl⟩, iteT ?_⟩
    exact q (.int 0) (.int 0) H1 r ⟨0, hm, rfl⟩ (.int 0)
  | cons n ns =>
    refine ⟨.ref a, h1, true, .inl ⟨_, SqL.of hns, rfl⟩, iteF ?_⟩
    refine ⟨.ref a, h1, .inl ⟨rfl, _, SqL.of hns⟩, a, _, 0, 0, .int n, rfl, rfl, hns, by decide, by decide, ?_, rfl, .inl ⟨n, rfl, ?_⟩⟩
    · have e : (List.map V.int (n :: ns)).length = ns.length + 1 := by rw [List.length_map, List.length_cons]
      rw [e]
      have hx : ixN (ns.length + 1) (0 : Int) = some 0 := by
        unfold ixN
        rw [if_pos (by omega), if_pos (by omega)]
        rfl
      exact (ixN_seq hx).1
    · refine ⟨.int (m : Int), h2, n, (m : Int), rfl, rfl, by show (0 : Int) < (m : Int); omega, ?_⟩
      have h0 : 0 ≤ n % (m : Int) := Int.emod_nonneg _ (by omega)
      have h3 : n % (m : Int) < (m : Int) := Int.emod_lt_of_pos _ (by omega)
      refine q _ (.int (n % (m : Int))) _ ?_ ⟨(n % (m : Int)).toNat, by omega, by rw [Int.toNat_of_nonneg h0]⟩ (.int _)
      refine r.trans ⟨fun b o hb e => ?_, fun d hd e => ?_⟩
      · rw [upd_ne (fun z => hb (by rw [z]; exact ha))]
        exact e
      · by_cases z : d = a
        · subst z
          exact ⟨ns, upd_same⟩
        · obtain ⟨ms, e⟩ := e
          exact ⟨ms, by rw [upd_ne z]; exact e⟩
theorem ed_take {c : Cn} {δ : List SD} {Hb : Hp} {te : TE} {P : Da → Prop} {i : Nat} {a : Addr} (hi : δ[i]? = some (.il a)) (h : Ed K c δ Hb te fun d => ∃ m : Nat, d = .int (m : Int) ∧ 0 < m ∧ ∀ r, r < m → P (.int ((r : Nat) : Int))) :
    Ed K c δ Hb (tCall (spG K preTk postTk) [] E0 (tCons (tVar i) (tCons te tNil))) P :=
  ed_callG hi <| ea_cons <| h.mono fun d ⟨m, e, hm, hP⟩ => ea_nil ⟨m, ⟨hm, by rw [e]⟩, fun d' ⟨r, hr, e'⟩ => by rw [e']; exact hP r hr⟩
/-! ### _law_cell -/
def preCe (p : List Int × Nat) (ds : List Da) : Prop := ds = [.lst (p.1.map Da.int), .int (p.2 : Int)]
def postCe (_ : List Int × Nat) (d : Da) : Prop := ∃ i : Int, d = .int i
theorem cl__law_cell (T : Txt K mg aA) : Cl PR w K mg base 1 "_law_cell" ["_law_script", "_law_k"] (spP K preCe postCe) := by
  refine okP T.d__law_cell sc__law_cell (fun p ds h => by rw [h]; rfl) (fun _ _ _ _ _ _ us hl => match us, hl with | [_, _], _ => rfl) (fun f cdv A outer s H E hr => ⟨_, (pss_cons (ps_if (pt_cmpR op_lt (pv 1) (pe_callB call_len_seq rfl T.mlen PySem.boot_len (pa_cons (pv 0) pa_nil)) (nomark _)) (pss_one (ps_ret (pe_callTy call_int1 rfl T.mint (by decide +kernel) (pa_cons (pe_ix (ix_k (K := K) rfl) (pv 0) (pv 1) (fun _ _ => rfl)) pa_nil)))) pss_nil)
    (pss_one (ps_ret pe_int))), ?_⟩)
  rintro ⟨ns, k⟩ ds Z wh Q rfl q
  refine nx_si <| eb_test <| ed_op <| ed_var rfl <| ed_cb <| ea_cons <| ed_var rfl <| ea_nil <| cb_len ⟨_, .inl rfl, od_lt ⟨_, _, rfl, rfl, _, rfl, fun h => ?_, fun h => ?_⟩⟩
  · have hk : k < ns.length := by
      have z := of_decide_eq_true h
      rw [List.length_map] at z
      replace z : (k : Int) < (ns.length : Int) := z
      omega
    have e : ixD (.lst (ns.map Da.int)) (.int (k : Int)) = some (.int ns[k]) := by
      show (ns.map Da.int)[k]? = _
      rw [List.getElem?_map, List.getElem?_eq_getElem hk]
      rfl
    exact nx_ret q <| ed_cb <| ea_cons <| ed_op <| ed_var rfl <| ed_var rfl <| od_ix ⟨_, e, ea_nil <| cb_int1 ⟨_, rfl, _, rfl⟩⟩
  · exact nx_ret q <| ed_int ⟨_, rfl⟩
/-! ### _law_draws -/
def preDr (ds : List Da) : Prop := ∃ (ns : List Int) (k n : Nat), n ≤ 1000 ∧ ds = [.lst (ns.map Da.int), .int (k : Int), .int (n : Int)]
theorem okN {x : Str} {st : Stmt} {N ps : List Str} {k : Nat} {Pre : List Da → Prop} (F : Df K mg x st) (S : FnScope N ps (defScope st)) (hl : ∀ ds, Pre ds → ds.length = ps.length)
    (hb : ∀ (kV doc pm : Value) (an : Option Addr) (cdv ct : Value) (us : List Value), us.length = ps.length → bindArgs (PySem.W.fnOf x x (defArgs st) (defBody st) (defScope st) .none kV doc pm an cdv ct) ⟨us, []⟩ = pure (ps.zip us))
    (h : ∀ (f : Addr) (cdv : Value) (A : Around) (outer : List Env) (s : Shared) (H : Hp) (E : XK), Room k (A.deeper (envOfC x (defScope st) s.heap.objs.size f cdv)) →
      ∃ t, PSs (cxOf CX0 PR w K mg base N x (defScope st) f cdv A outer s H E).nox (defBody st) t ∧
        ∀ (ds : List Da) (Z : List Addr) (wh : Hp) (Q : VK), Pre ds → (∀ a H', Rl [] H H' → H a = none → IL H' a → Q (.ref a) H') → Nx K ⟨Z, [], wh⟩ (ds.map SD.dat ++ List.replicate (N.length - ds.length) .no) H (t { nx := fun _ H' => Q .non H', rt := Q })) :
    Cl PR w K mg base (k + 1) x ps (spN K Pre) := by
  obtain ⟨f, fd, F, m⟩ := F
  refine ⟨f, fd, ?_, m, F.kp, F.binds hb⟩
  refine F.ok S (fun vs H Q E hh => ?_) (fun cdv A outer s H vs Q E hr hh => ?_)
  · obtain ⟨Z, ds, _, dv, p, _⟩ := hh
    rw [dv.len, hl ds p]
  · obtain ⟨Z, ds, lv, dv, p, q⟩ := hh
    obtain ⟨t, ht, hv⟩ := h f cdv A outer s H E hr
    refine ⟨t, ht, hv ds Z (fun _ => none) Q p (fun a H' r hn il => q a H' (fun b o e => r.keep b o (by simp) e) hn il) _ H (Rl.refl _ _) ⟨lv, fun d m => by simp at m, fun a o e => by cases e⟩ (Sl.init dv)⟩
theorem nx_retN {c : Cn} {δ : List SD} {Hb : Hp} {D : Ends} {i : Nat} {a : Addr} {ns : List Int} (hi : δ[i]? = some (.ml a (ns.map Da.int))) (hb : Hb a = none) (hq : ∀ a H', Rl c.dl Hb H' → Hb a = none → IL H' a → D.rt (.ref a) H') : Nx K (c.hide a) δ Hb (tRet (tVar i) D) := fun σ H r ok s => by
  obtain ⟨x, h1, rfl, hz', hn, vs, hv, dv⟩ := s.get hi
  cases dv.intsEq ns
  exact ⟨.ref a, h1, hq a H r hb ⟨ns, hv⟩⟩
theorem cl__law_draws (T : Txt K mg aA) : Cl PR w K mg base 2 "_law_draws" ["_law_script", "_law_k", "_law_count"] (spN K preDr) := by
  obtain ⟨f1, fd1, G__law_cell, m__law_cell, k__law_cell, b__law_cell⟩ := cl__law_cell (PR := PR) (w := w) (base := base) T
  refine okN T.d__law_draws sc__law_draws (fun ds h => by obtain ⟨_, _, _, _, rfl⟩ := h; rfl) (fun _ _ _ _ _ _ us hl => match us, hl with | [_, _, _], _ => rfl) (fun f cdv A outer s H E hr => ⟨_, (pss_cons (ps_set (i := 3) sc__law_draws.nd rfl (Or.inl rfl) (pe_call G__law_cell (hr.mono (by omega)) rfl m__law_cell k__law_cell b__law_cell .nil pass0 (pa_cons (pv 0) (pa_cons (pv 1) pa_nil))))
    (pss_cons (ps_set (i := 4) sc__law_draws.nd rfl (Or.inl rfl) pe_int)
    (pss_cons (ps_if (pt_cmpR op_ge (pv 3) (pe_op op_pow pe_int pe_int) (nomark _)) (pss_one (ps_set (i := 4) sc__law_draws.nd rfl (Or.inl rfl) (pe_op op_fdivW (pv 3) (pe_op op_pow pe_int pe_int)))) pss_nil)
    (pss_cons (ps_set (i := 5) sc__law_draws.nd rfl (Or.inl rfl) (pe_op op_mod (pe_callTy call_int1 rfl T.mint (by decide +kernel) (pa_cons (pe_op op_add (pe_op op_add (pe_op op_mul (pv 3) pe_int) (pe_op op_mul (pv 1) pe_int)) pe_int) pa_nil)) pe_int))
    (pss_cons (ps_set (i := 6) sc__law_draws.nd rfl (Or.inl rfl) (pe_lst pa_nil))
    (pss_cons (ps_for PassesOwn.never rfl (pi_range1 rfl T.mrange (pa_cons (pv 2) pa_nil)) (pg_name (i := 7) sc__law_draws.nd rfl (Or.inl rfl)) (pss_cons (ps_set (i := 5) sc__law_draws.nd rfl (Or.inl rfl) (pe_op op_mod (pe_callTy call_int1 rfl T.mint (by decide +kernel) (pa_cons (pe_op op_add (pe_op op_add (pe_op op_mul (pv 5) pe_int) (pe_op op_mul (pv 7) pe_int)) pe_int) pa_nil)) pe_int))
    (pss_one (ps_if (pt_cmpR op_gt (pv 4) pe_int (nomark _)) (pss_cons (ps_expr (pe_bm PySem.F.plainAttrs_list PySem.F.slot_list_append PySem.F.type_list_append mt_append (pv 6) (pa_cons (pe_op op_mod (pe_callTy call_int1 rfl T.mint (by decide +kernel) (pa_cons (pv 4) pa_nil)) pe_int) pa_nil)))
    (pss_one (ps_set (i := 4) sc__law_draws.nd rfl (Or.inl rfl) (pe_op op_fdiv (pv 4) pe_int)))) (pss_one (ps_expr (pe_bm PySem.F.plainAttrs_list PySem.F.slot_list_append PySem.F.type_list_append mt_append (pv 6) (pa_cons (pe_op op_mod (pe_callTy call_int1 rfl T.mint (by decide +kernel) (pa_cons (pe_op op_fdiv (pv 5) pe_int) pa_nil)) pe_int) pa_nil))))))))
    (pss_one (ps_ret (pv 6))))))))), ?_⟩)
  rintro ds Z wh Q ⟨ns, k, n, hn, rfl⟩ q
  refine nx_sa <| ed_call <| ea_cons <| ed_var rfl <| ea_cons <| ed_var rfl <| ea_nil ⟨(ns, k), rfl, fun d ⟨x, hd⟩ => ?_⟩
  subst hd
  refine nx_sa <| ed_int ?_
  have rest : ∀ y : Int, Nx K ⟨Z, [], wh⟩ [.dat (.lst (ns.map Da.int)), .dat (.int (k : Int)), .dat (.int (n : Int)), .dat (.int x), .dat (.int y), .no, .no, .no] H
      (tSeq (tAsg (tOp (rI (fun _ j => 0 < j) fun i j => .int (i % j)) (tCB (fun xs H Q => (∃ i, xs = [.int i] ∧ Q (.int i) H) ∨ ∃ k, xs = [.bl k] ∧ Q (.int (if k then 1 else 0)) H) (tCons (tOp (rI0 fun i j => .int (i + j)) (tOp (rI0 fun i j => .int (i + j)) (tOp (rI CMul fun i j => .int (i * j)) (tVar 3) (tC (.int 48271))) (tOp (rI CMul fun i j => .int (i * j)) (tVar 1) (tC (.int 69621)))) (tC (.int 12345))) tNil)) (tC (.int 2147483647))) (gName 5))
        (tSeq (tAsg (tLst tNil) (gName 6)) (tSeq (tFor (iRng1 (tCons (tVar 2) tNil)) (gName 7)
          (tSeq (tAsg (tOp (rI (fun _ j => 0 < j) fun i j => .int (i % j)) (tCB (fun xs H Q => (∃ i, xs = [.int i] ∧ Q (.int i) H) ∨ ∃ k, xs = [.bl k] ∧ Q (.int (if k then 1 else 0)) H) (tCons (tOp (rI0 fun i j => .int (i + j)) (tOp (rI0 fun i j => .int (i + j)) (tOp (rI CMul fun i j => .int (i * j)) (tVar 5) (tC (.int 16807))) (tOp (rI CMul fun i j => .int (i * j)) (tVar 7) (tC (.int 101)))) (tC (.int 7))) tNil)) (tC (.int 2147483647))) (gName 5))
            (tIfS (tTest (tOp (rI0 fun i j => .bl (decide (j < i))) (tVar 4) (tC (.int 0))))
              (tSeq (tDrop (tBM K "list" rAppend (tVar 6) (tCons (tOp (rI (fun _ j => 0 < j) fun i j => .int (i % j)) (tCB (fun xs H Q => (∃ i, xs = [.int i] ∧ Q (.int i) H) ∨ ∃ k, xs = [.bl k] ∧ Q (.int (if k then 1 else 0)) H) (tCons (tVar 4) tNil)) (tC (.int 997))) tNil)))
                (tAsg (tOp (rI CDiv fun i j => .int (i / j)) (tVar 4) (tC (.int 997))) (gName 4)))
              (tDrop (tBM K "list" rAppend (tVar 6) (tCons (tOp (rI (fun _ j => 0 < j) fun i j => .int (i % j)) (tCB (fun xs H Q => (∃ i, xs = [.int i] ∧ Q (.int i) H) ∨ ∃ k, xs = [.bl k] ∧ Q (.int (if k then 1 else 0)) H) (tCons (tOp (rI CDiv fun i j => .int (i / j)) (tVar 5) (tC (.int 1009))) tNil)) (tC (.int 997))) tNil))))))
          (tRet (tVar 6)))) { nx := fun _ H' => Q .non H', rt := Q }) := fun y => by
    refine nx_sa <| ed_op <| ed_cb <| ea_cons <| ed_op <| ed_op <| ed_op <| ed_var rfl <| ed_int <| od_mul ⟨_, _, rfl, rfl, .inr ⟨by decide, by decide⟩, ?_⟩
    refine ed_op <| ed_var rfl <| ed_int <| od_mul ⟨_, _, rfl, rfl, .inr ⟨by decide, by decide⟩, od_add ⟨_, _, rfl, rfl, ?_⟩⟩
    refine ed_int <| od_add ⟨_, _, rfl, rfl, ea_nil <| cb_int1 ⟨_, rfl, ed_int <| od_mod ⟨_, _, rfl, rfl, by decide, ?_⟩⟩⟩
    refine nx_sml fun a ha hb => ?_
    refine nx_sfor <| ei_range1 <| ea_cons <| ed_var rfl <| ea_nil ⟨n, rfl, by omega, fun i δi => ∃ (y s : Int) (ms : List Int), ms.length ≤ i ∧ δi = [.dat (.lst (ns.map Da.int)), .dat (.int (k : Int)), .dat (.int (n : Int)), .dat (.int x), .dat (.int y), .dat (.int s), .ml a (ms.map Da.int), .no], ⟨_, _, [], Nat.zero_le _, rfl⟩, fun i d δi w ew hd hinv => ?_, fun δn hinv => ?_⟩
    · obtain ⟨rfl, hlt⟩ := upto_get hd
      obtain ⟨y, s, ms, hlen, rfl⟩ := hinv
      refine nx_sa <| ed_op <| ed_cb <| ea_cons <| ed_op <| ed_op <| ed_op <| ed_var rfl <| ed_int <| od_mul ⟨_, _, rfl, rfl, .inr ⟨by decide, by decide⟩, ?_⟩
      refine ed_op <| ed_var rfl <| ed_int <| od_mul ⟨_, _, rfl, rfl, .inr ⟨by decide, by decide⟩, od_add ⟨_, _, rfl, rfl, ?_⟩⟩
      refine ed_int <| od_add ⟨_, _, rfl, rfl, ea_nil <| cb_int1 ⟨_, rfl, ed_int <| od_mod ⟨_, _, rfl, rfl, by decide, ?_⟩⟩⟩
      have hz : (ms.map Da.int).length < 100000 := by rw [List.length_map]; omega
      refine nx_if <| eb_test <| ed_op <| ed_var rfl <| ed_int <| od_gt ⟨_, _, rfl, rfl, _, rfl, fun _ => ?_, fun _ => ?_⟩
      · refine nx_sapp (a := a) rfl hb hz ⟨⟩ <| ed_op <| ed_cb <| ea_cons <| ed_var rfl <| ea_nil <| cb_int1 ⟨_, rfl, ed_int <| od_mod ⟨_, _, rfl, rfl, by decide, ?_⟩⟩
        refine nx_asg <| ed_op <| ed_var rfl <| ed_int <| od_fdiv ⟨_, _, rfl, rfl, ⟨by decide, by decide⟩, ?_⟩
        refine nx_turn (.same <| .same <| .same <| .same <| .same <| .same <| .same <| .no .nil) ⟨y / 997, (s * 16807 + (i : Int) * 101 + 7) % 2147483647, ms ++ [y % 997], ?_, ?_⟩
        · rw [List.length_append, List.length_singleton]; omega
        · rw [List.map_append]; rfl
      · refine nx_app (a := a) rfl hb hz ⟨⟩ <| ed_op <| ed_cb <| ea_cons <| ed_op <| ed_var rfl <| ed_int <| od_fdiv ⟨_, _, rfl, rfl, ⟨by decide, by decide⟩, ?_⟩
        refine ea_nil <| cb_int1 ⟨_, rfl, ed_int <| od_mod ⟨_, _, rfl, rfl, by decide, ?_⟩⟩
        refine nx_turn (.same <| .same <| .same <| .same <| .same <| .same <| .same <| .no .nil) ⟨y, (s * 16807 + (i : Int) * 101 + 7) % 2147483647, ms ++ [(s * 16807 + (i : Int) * 101 + 7) % 2147483647 / 1009 % 997], ?_, ?_⟩
        · rw [List.length_append, List.length_singleton]; omega
        · rw [List.map_append]; rfl
    · obtain ⟨y, s, ms, hlen, rfl⟩ := hinv
      exact nx_retN (a := a) (ns := ms) rfl hb q
  refine nx_si <| eb_test <| ed_op <| ed_var rfl <| ed_op <| ed_int <| ed_int <| od_pow ⟨_, _, rfl, rfl, ⟨by decide, by decide, by decide⟩, od_ge ⟨_, _, rfl, rfl, _, rfl, fun _ => ?_, fun _ => ?_⟩⟩
  · refine nx_asg <| ed_op <| ed_var rfl <| ed_op <| ed_int <| ed_int <| od_pow ⟨_, _, rfl, rfl, ⟨by decide, by decide, by decide⟩, od_fdiv ⟨_, _, rfl, rfl, ⟨by decide +kernel, by decide +kernel⟩, ?_⟩⟩
    exact rest _
  · exact rest _
/-! ### _law_sizes -/
def preSz (_ : Unit) (ds : List Da) : Prop := ds = []
def postSz (_ : Unit) (d : Da) : Prop := ∃ nc nr ni : Nat, 0 < nc ∧ nc ≤ 4 ∧ nr ≤ 2 ∧ ni ≤ 2 ∧ d = .tup [.int (nc : Int), .int (nr : Int), .int (ni : Int)]
theorem lt4 {r : Nat} (h : r < 4) : r = 0 ∨ r = 1 ∨ r = 2 ∨ r = 3 := by omega
theorem cl__law_sizes (T : Txt K mg aA) : Cl PR w K mg base 2 "_law_sizes" ["_law_draws_here"] (spG K preSz postSz) := by
  obtain ⟨f1, fd1, G__law_take, m__law_take, k__law_take, b__law_take⟩ := cl__law_take (PR := PR) (w := w) (base := base) T
  refine okG T.d__law_sizes sc__law_sizes (fun p ds h => by rw [h]; rfl) (fun _ _ _ _ _ _ us hl => match us, hl with | [_], _ => rfl) (fun f cdv A outer s H E hr => ⟨_, (pss_cons (ps_set (i := 1) sc__law_sizes.nd rfl (Or.inl rfl) (pe_op op_add pe_int (pe_call G__law_take (hr.mono (by omega)) rfl m__law_take k__law_take b__law_take .nil pass0 (pa_cons (pv 0) (pa_cons pe_int pa_nil)))))
    (pss_cons (ps_set (i := 2) sc__law_sizes.nd rfl (Or.inl rfl) (pe_ix (ix_k (K := K) rfl) (pe_tup (pa_cons pe_int (pa_cons pe_int (pa_cons pe_int (pa_cons pe_int pa_nil))))) (pe_call G__law_take (hr.mono (by omega)) rfl m__law_take k__law_take b__law_take .nil pass0 (pa_cons (pv 0) (pa_cons pe_int pa_nil))) (fun _ _ => rfl)))
    (pss_one (ps_ret (pe_tup (pa_cons (pv 1) (pa_cons (pv 2) (pa_cons (pe_ix (ix_k (K := K) rfl) (pe_tup (pa_cons pe_int (pa_cons pe_int (pa_cons pe_int (pa_cons pe_int pa_nil))))) (pe_call G__law_take (hr.mono (by omega)) rfl m__law_take k__law_take b__law_take .nil pass0 (pa_cons (pv 0) (pa_cons pe_int pa_nil))) (fun _ _ => rfl)) pa_nil)))))))), ?_⟩)
  rintro _ ds Z a wh Q rfl q
  refine nx_sa <| ed_op <| ed_int <| ed_take rfl <| ed_int ⟨4, rfl, by decide, fun r1 h1 => od_add ⟨_, _, rfl, rfl, ?_⟩⟩
  have two : ∀ (nc nr : Nat), 0 < nc → nc ≤ 4 → nr ≤ 2 → Nx K ⟨Z, [a], wh⟩ [.il a, .dat (.int (nc : Int)), .dat (.int (nr : Int))] H
      (tRet (tTup (tCons (tVar 1) (tCons (tVar 2) (tCons (tOp (rIx K) (tTup (tCons (tC (.int 0)) (tCons (tC (.int 0)) (tCons (tC (.int 1)) (tCons (tC (.int 2)) tNil))))) (tCall (spG K preTk postTk) [] E0 (tCons (tVar 0) (tCons (tC (.int 4)) tNil)))) tNil)))) { nx := fun _ H' => Q .non H', rt := Q }) := fun nc nr h0 h4 h2 => by
    refine nx_ret q <| ed_tup <| ea_cons <| ed_var rfl <| ea_cons <| ed_var rfl <| ea_cons <| ed_op <| ed_tup <| ea_cons <| ed_int <| ea_cons <| ed_int <| ea_cons <| ed_int <| ea_cons <| ed_int <| ea_nil ⟨sm rfl, ?_⟩
    refine ed_take rfl <| ed_int ⟨4, rfl, by decide, fun r3 h3 => ?_⟩
    rcases lt4 h3 with rfl | rfl | rfl | rfl
    · exact od_ix ⟨_, rfl, ea_nil ⟨sm rfl, nc, nr, 0, h0, h4, h2, by decide, rfl⟩⟩
    · exact od_ix ⟨_, rfl, ea_nil ⟨sm rfl, nc, nr, 0, h0, h4, h2, by decide, rfl⟩⟩
    · exact od_ix ⟨_, rfl, ea_nil ⟨sm rfl, nc, nr, 1, h0, h4, h2, by decide, rfl⟩⟩
    · exact od_ix ⟨_, rfl, ea_nil ⟨sm rfl, nc, nr, 2, h0, h4, h2, by decide, rfl⟩⟩
  have e1 : (1 : Int) + (r1 : Int) = ((1 + r1 : Nat) : Int) := by omega
  rw [e1]
  refine nx_sa <| ed_op <| ed_tup <| ea_cons <| ed_int <| ea_cons <| ed_int <| ea_cons <| ed_int <| ea_cons <| ed_int <| ea_nil ⟨sm rfl, ?_⟩
  refine ed_take rfl <| ed_int ⟨4, rfl, by decide, fun r2 h2 => ?_⟩
  rcases lt4 h2 with rfl | rfl | rfl | rfl
  · exact od_ix ⟨_, rfl, two _ 0 (by omega) (by omega) (by decide)⟩
  · exact od_ix ⟨_, rfl, two _ 1 (by omega) (by omega) (by decide)⟩
  · exact od_ix ⟨_, rfl, two _ 1 (by omega) (by omega) (by decide)⟩
  · exact od_ix ⟨_, rfl, two _ 2 (by omega) (by omega) (by decide)⟩
end
end Kw

/-! the law's generators: names, roles, concepts -/
namespace Kw
open PySem PySem.Spec PyProof.Rows L2 Evl
section
variable {K : PySem.W.Frag} {c : Cn} {δ : List SD} {Hb : Hp} {tt tu : TT}
theorem eb_or2 {x y : Bool} (h1 : Eb K c δ Hb tt fun b => b = x) (h2 : Eb K c δ Hb tu fun b => b = y) : Eb K c δ Hb (tOr tt tu) fun b => b = (x || y) := by
  refine eb_or <| h1.mono fun b e => ⟨fun h => ?_, fun h => h2.mono fun b' e' => ?_⟩
  · rw [← e, h, Bool.true_or]
  · rw [e', ← e, h, Bool.false_or]
theorem eb_and2 {x y : Bool} (h1 : Eb K c δ Hb tt fun b => b = x) (h2 : Eb K c δ Hb tu fun b => b = y) : Eb K c δ Hb (tAnd tt tu) fun b => b = (x && y) := by
  refine eb_and <| h1.mono fun b e => ⟨fun h => h2.mono fun b' e' => ?_, fun h => ?_⟩
  · rw [e', ← e, h, Bool.true_and]
  · rw [← e, h, Bool.false_and]
end
section
variable {PR : Program} {w : World} {K : PySem.W.Frag} {mg : Str → Option Value} {base : Heap} {aA : Addr}
/-! ### _law_frame -/
def preFr (_ : Unit) (ds : List Da) : Prop := ds = []
def postFr (_ : Unit) (d : Da) : Prop := ∃ l r : Str, l.length ≤ 1000 ∧ r.length ≤ 1000 ∧ d = .tup [.str l, .str r]
theorem pick {s : Str} {n r : Nat} (h : s.cps.toList.length = n) (hr : r < n) : ∃ k, s.cps.toList[r]? = some k := ⟨_, List.getElem?_eq_getElem (by omega)⟩
theorem cl__law_frame (T : Txt K mg aA) : Cl PR w K mg base 2 "_law_frame" ["_law_draws_here"] (spG K preFr postFr) := by
  obtain ⟨f1, fd1, G__law_take, m__law_take, k__law_take, b__law_take⟩ := cl__law_take (PR := PR) (w := w) (base := base) T
  refine okG T.d__law_frame sc__law_frame (fun p ds h => by rw [h]; rfl) (fun _ _ _ _ _ _ us hl => match us, hl with | [_], _ => rfl) (fun f cdv A outer s H E hr => ⟨_, (pss_cons (ps_if (pt_cmpR op_eq (pe_call G__law_take (hr.mono (by omega)) rfl m__law_take k__law_take b__law_take .nil pass0 (pa_cons (pv 0) (pa_cons pe_int pa_nil))) pe_int (nomark _)) (pss_one (ps_ret (pe_tup (pa_cons pe_str (pa_cons pe_str pa_nil))))) pss_nil)
    (pss_cons (ps_set (i := 1) sc__law_frame.nd rfl (Or.inl rfl) pe_str)
    (pss_cons (ps_for PassesOwn.never rfl (pi_range1 rfl T.mrange (pa_cons (pe_call G__law_take (hr.mono (by omega)) rfl m__law_take k__law_take b__law_take .nil pass0 (pa_cons (pv 0) (pa_cons pe_int pa_nil))) pa_nil)) (pg_name (i := 2) sc__law_frame.nd rfl (Or.inl rfl)) (pss_one (ps_set (i := 1) sc__law_frame.nd rfl (Or.inl rfl) (pe_op op_add_str (pv 1) (pe_ix ix_str pe_str (pe_call G__law_take (hr.mono (by omega)) rfl m__law_take k__law_take b__law_take .nil pass0 (pa_cons (pv 0) (pa_cons pe_int pa_nil))) (fun _ _ => rfl))))))
    (pss_cons (ps_set (i := 3) sc__law_frame.nd rfl (Or.inl rfl) pe_str)
    (pss_cons (ps_for PassesOwn.never rfl (pi_range1 rfl T.mrange (pa_cons (pe_call G__law_take (hr.mono (by omega)) rfl m__law_take k__law_take b__law_take .nil pass0 (pa_cons (pv 0) (pa_cons pe_int pa_nil))) pa_nil)) (pg_name (i := 2) sc__law_frame.nd rfl (Or.inl rfl)) (pss_one (ps_set (i := 3) sc__law_frame.nd rfl (Or.inl rfl) (pe_op op_add_str (pv 3) (pe_ix ix_str pe_str (pe_call G__law_take (hr.mono (by omega)) rfl m__law_take k__law_take b__law_take .nil pass0 (pa_cons (pv 0) (pa_cons pe_int pa_nil))) (fun _ _ => rfl))))))
    (pss_one (ps_ret (pe_tup (pa_cons (pv 1) (pa_cons (pv 3) pa_nil)))))))))), ?_⟩)
  rintro _ ds Z a wh Q rfl q
  refine nx_si <| eb_test <| ed_op <| ed_take rfl <| ed_int ⟨2, rfl, by decide, fun r hr => ed_int <| od_eq ⟨_, rfl, _, rfl, fun _ => ?_, fun _ => ?_⟩⟩
  · exact nx_ret q <| ed_tup <| ea_cons <| ed_str <| ea_cons <| ed_str <| ea_nil ⟨sm rfl, _, _, by decide +kernel, by decide +kernel, rfl⟩
  refine nx_sa <| ed_str ?_
  refine nx_sfor <| ei_range1 <| ea_cons <| ed_take rfl <| ed_int ⟨8, rfl, by decide, fun n hn => ea_nil ⟨n, rfl, by omega, fun i δi => ∃ s : Str, s.length ≤ i ∧ δi = [.il a, .dat (.str s), .no, .no], ⟨_, by decide +kernel, rfl⟩, fun i d δi w ew hd hinv => ?_, fun δn hinv => ?_⟩⟩
  · obtain ⟨rfl, hlt⟩ := upto_get hd
    obtain ⟨s, hs, rfl⟩ := hinv
    refine nx_asg <| ed_op <| ed_var rfl <| ed_op <| ed_str <| ed_take rfl <| ed_int ⟨53, rfl, by decide, fun r hr => ?_⟩
    obtain ⟨k, hk⟩ := pick (s := "abcdefghijklmnopqrstuvwxyzABCDEFGHIJKLMNOPQRSTUVWXYZ_") (by decide +kernel) hr
    refine od_ixS (by decide +kernel) hk <| od_addS ⟨s, ⟨#[k]⟩, rfl, rfl, ?_, ?_⟩
    · show s.length + 1 ≤ 100000
      omega
    · refine nx_turn (.same <| .same <| .no <| .same .nil) ⟨s ++ ⟨#[k]⟩, ?_, rfl⟩
      rw [PySem.Str.length_append]
      show s.length + 1 ≤ i + 1
      omega
  · obtain ⟨l, hl, rfl⟩ := hinv
    rw [upto_len] at hl
    refine nx_sa <| ed_str ?_
    refine nx_sfor <| ei_range1 <| ea_cons <| ed_take rfl <| ed_int ⟨8, rfl, by decide, fun n2 hn2 => ea_nil ⟨n2, rfl, by omega, fun i δi => ∃ s : Str, s.length ≤ i + 1 ∧ δi = [.il a, .dat (.str l), .no, .dat (.str s)], ⟨_, by decide +kernel, rfl⟩, fun i d δi w ew hd hinv => ?_, fun δn hinv => ?_⟩⟩
    · obtain ⟨rfl, hlt⟩ := upto_get hd
      obtain ⟨s, hs, rfl⟩ := hinv
      refine nx_asg <| ed_op <| ed_var rfl <| ed_op <| ed_str <| ed_take rfl <| ed_int ⟨53, rfl, by decide, fun r hr => ?_⟩
      obtain ⟨k, hk⟩ := pick (s := "abcdefghijklmnopqrstuvwxyz0123456789_ABCDEFGHIJKLMNOP") (by decide +kernel) hr
      refine od_ixS (by decide +kernel) hk <| od_addS ⟨s, ⟨#[k]⟩, rfl, rfl, ?_, ?_⟩
      · show s.length + 1 ≤ 100000
        omega
      · refine nx_turn (.same <| .same <| .no <| .same .nil) ⟨s ++ ⟨#[k]⟩, ?_, rfl⟩
        rw [PySem.Str.length_append]
        show s.length + 1 ≤ i + 1 + 1
        omega
    · obtain ⟨r2, hl2, rfl⟩ := hinv
      rw [upto_len] at hl2
      exact nx_ret q <| ed_tup <| ea_cons <| ed_var rfl <| ea_cons <| ed_var rfl <| ea_nil ⟨sm rfl, l, r2, by omega, by omega, rfl⟩
/-! ### _law_names -/
def preNa (_ : Unit) (ds : List Da) : Prop := ds = []
def postNa (_ : Unit) (d : Da) : Prop := ∃ N : Nm, N.cs.Nodup ∧ N.rs.Nodup ∧ N.is.Nodup ∧ N.cs.length = 9 ∧ N.rs.length = 5 ∧ N.is.length = 5 ∧ d = names N
theorem str_cancel {l x y r : Str} (h : l ++ x ++ r = l ++ y ++ r) : x = y := by
  have e : ∀ a b : Str, (a ++ b).cps.toList = a.cps.toList ++ b.cps.toList := fun a b => by
    show (a.cps ++ b.cps).toList = _
    simp
  have h2 := congrArg (fun s : Str => s.cps.toList) h
  simp only [e] at h2
  have h3 := List.append_cancel_right h2
  have h4 := List.append_cancel_left h3
  cases x
  cases y
  congr
  exact Array.toList_inj.mp h4
theorem nd_frame {l r : Str} {xs : List Str} (h : xs.Nodup) : (xs.map fun m => l ++ m ++ r).Nodup :=
  List.Pairwise.map _ (fun a b hab e => hab (str_cancel e)) h
theorem cl__law_names (T : Txt K mg aA) : Cl PR w K mg base 3 "_law_names" ["_law_draws_here"] (spG K preNa postNa) := by
  obtain ⟨f1, fd1, G__law_frame, m__law_frame, k__law_frame, b__law_frame⟩ := cl__law_frame (PR := PR) (w := w) (base := base) T
  refine okG T.d__law_names sc__law_names (fun p ds h => by rw [h]; rfl) (fun _ _ _ _ _ _ us hl => match us, hl with | [_], _ => rfl) (fun f cdv A outer s H E hr => ⟨_, (pss_cons (ps_set (i := 1) sc__law_names.nd rfl (Or.inr rfl) (pe_call G__law_frame (hr.mono (by omega)) rfl m__law_frame k__law_frame b__law_frame .nil pass0 (pa_cons (pv 0) pa_nil)))
    (pss_cons (ps_set (i := 2) sc__law_names.nd rfl (Or.inl rfl) (pe_lst pa_nil))
    (pss_cons (ps_for PassesOwn.never rfl (pi_tup (pe_tup (pa_cons pe_str (pa_cons pe_str (pa_cons pe_str (pa_cons pe_str pa_nil)))))) (pg_name (i := 3) sc__law_names.nd rfl (Or.inl rfl)) (pss_one (ps_expr (pe_bm PySem.F.plainAttrs_list PySem.F.slot_list_append PySem.F.type_list_append mt_append (pv 2) (pa_cons (pe_lc (own := [("_law_mark", 4)]) (g := gName 4) (tt := tYes) rfl sc__law_names.nd (pi_str (pv 3)) (blkOk_by (own := [("_law_mark", 4)]) (N := n__law_names) (sc := defScope s__law_names) (by decide +kernel)) (fun _ _ _ _ _ => pg_name (i := 4) sc__law_names.nd rfl (Or.inl rfl)) (fun _ _ _ _ _ => pts_nil) (fun _ _ _ _ _ => (pe_op op_add_str (pe_op op_add_str (pe_ix (ix_k (K := K) rfl) (pv 1) pe_int (fun _ _ => rfl)) (pv 4)) (pe_ix (ix_k (K := K) rfl) (pv 1) pe_int (fun _ _ => rfl))))) pa_nil)))))
    (pss_one (ps_ret (pv 2)))))), ?_⟩)
  rintro _ ds Z a wh Q rfl q
  refine nx_sa <| ed_callG rfl <| ea_nil ⟨(), rfl, fun d ⟨l, r, hl, hr2, e⟩ => ?_⟩
  subst e
  refine nx_sml fun b hbz hb => ?_
  refine nx_sfM [("abcdefghi" : Str), "rstuv", "klmno", "ABCDEFGHIJKL"] Da.str (fun _ => true) (fun s => .lst (((signs s).map fun m => l ++ m ++ r).map Da.str)) (δ0 := [.il a, .dat (.tup [.str l, .str r]), .no, .no, .no]) (s := 2) (a := b) (by decide) (SLe.refl _) (ei_tup <| ed_tup <| ea_cons <| ed_str <| ea_cons <| ed_str <| ea_cons <| ed_str <| ea_cons <| ed_str <| ea_nil ⟨sm rfl, _, rfl, rfl⟩) (fun x hx w acc hz ew N hN => ?_) ?_
  · have sl : (signs x).length ≤ 50000 := by
      rcases List.mem_cons.mp hx with rfl | hx
      · decide +kernel
      rcases List.mem_cons.mp hx with rfl | hx
      · decide +kernel
      rcases List.mem_cons.mp hx with rfl | hx
      · decide +kernel
      rcases List.mem_cons.mp hx with rfl | hx
      · decide +kernel
      · cases hx
    refine nx_app (a := b) rfl hb (by omega) ⟨⟩ ?_
    refine ed_lcM (signs x) Da.str (fun m => .str (l ++ m ++ r)) sl (ei_str <| ed_var rfl ⟨_, rfl, rfl⟩) (fun m hm a' w' ew' ha' hb' => ?_) ?_
    · have ml : m.length = 1 := by
        unfold signs at hm
        obtain ⟨k, _, rfl⟩ := List.mem_map.mp hm
        rfl
      refine ed_op <| ed_op <| ed_op <| ed_var rfl <| ed_int <| od_ix ⟨_, rfl, ed_var rfl <| od_addS ⟨_, _, rfl, rfl, by omega, ?_⟩⟩
      refine ed_op <| ed_var rfl <| ed_int <| od_ix ⟨_, rfl, od_addS ⟨_, _, rfl, rfl, ?_, rfl⟩⟩
      rw [PySem.Str.length_append]
      omega
    · refine hN _ ?_
      rw [if_pos rfl, List.map_map]
      exact .same <| .same <| .same <| .no <| .same .nil
  · rw [filter_true]
    refine nx_retml (a := b) rfl hbz q ⟨⟨(signs "abcdefghi").map fun m => l ++ m ++ r, (signs "rstuv").map fun m => l ++ m ++ r, (signs "klmno").map fun m => l ++ m ++ r, (signs "ABCDEFGHIJKL").map fun m => l ++ m ++ r⟩, nd_frame (by decide +kernel), nd_frame (by decide +kernel), nd_frame (by decide +kernel), ?_, ?_, ?_, rfl⟩
    · rw [List.length_map]
      decide +kernel
    · rw [List.length_map]
      decide +kernel
    · rw [List.length_map]
      decide +kernel
/-! ### _law_role -/
theorem strs_get {l : List Str} {r : Nat} (h : r < l.length) : ixD (.lst (l.map Da.str)) (.int (r : Int)) = some (.str (nmAt l r)) := by
  show (l.map Da.str)[r]? = _
  rw [List.getElem?_map, nmAt_get h]
  rfl
def preLr (g : Gp) (ds : List Da) : Prop := g.ok ∧ 0 < g.nr ∧ ds = [names g.N, sizes g]
def postLr (g : Gp) (d : Da) : Prop := ∃ r : Ro, r.1 < g.nr ∧ d = dRw g.N r
theorem cl__law_role (T : Txt K mg aA) : Cl PR w K mg base 2 "_law_role" ["_law_draws_here", "_law_names_here", "_law_sizes_here"] (spG K preLr postLr) := by
  obtain ⟨f1, fd1, G__law_take, m__law_take, k__law_take, b__law_take⟩ := cl__law_take (PR := PR) (w := w) (base := base) T
  refine okG T.d__law_role sc__law_role (fun p ds h => by rw [h.2.2]; rfl) (fun _ _ _ _ _ _ us hl => match us, hl with | [_, _, _], _ => rfl) (fun f cdv A outer s H E hr => ⟨_, (pss_cons (ps_set (i := 3) sc__law_role.nd rfl (Or.inl rfl) (pe_ix (ix_k (K := K) rfl) (pe_ix (ix_k (K := K) rfl) (pv 1) pe_int (fun _ _ => rfl)) (pe_call G__law_take (hr.mono (by omega)) rfl m__law_take k__law_take b__law_take .nil pass0 (pa_cons (pv 0) (pa_cons (pe_ix (ix_k (K := K) rfl) (pv 2) pe_int (fun _ _ => rfl)) pa_nil))) (fun _ _ => rfl)))
    (pss_one (ps_ret (pe_tup (pa_cons (pv 3) (pa_cons (pe_cmpR op_eq (pe_call G__law_take (hr.mono (by omega)) rfl m__law_take k__law_take b__law_take .nil pass0 (pa_cons (pv 0) (pa_cons pe_int pa_nil))) pe_int (nomark _)) pa_nil)))))), ?_⟩)
  rintro g ds Z a wh Q ⟨ok, hp, rfl⟩ q
  refine nx_sa <| ed_op <| ed_op <| ed_var rfl <| ed_int <| od_ix ⟨_, rfl, ed_take rfl <| ed_op <| ed_var rfl <| ed_int <| od_ix ⟨_, rfl, g.nr, rfl, hp, fun r hr => od_ix ⟨_, strs_get (Nat.lt_of_lt_of_le hr ok.lr), ?_⟩⟩⟩
  refine nx_ret q <| ed_tup <| ea_cons <| ed_var rfl <| ea_cons <| ed_op <| ed_take rfl <| ed_int ⟨3, rfl, by decide, fun r2 h2 => ed_int <| od_eq ⟨_, rfl, ?_⟩⟩
  exact ea_nil ⟨sm rfl, (r, decide ((r2 : Int) = 0)), hr, rfl⟩
/-! ### _law_concept -/
def preLc (n : Nat) (p : Gp × Nat) (ds : List Da) : Prop := p.1.ok ∧ p.2 < n ∧ ds = [names p.1.N, sizes p.1, .int (p.2 : Int)]
def postLc (p : Gp × Nat) (d : Da) : Prop := ∃ c : WC, c.wf p.1.nc p.1.nr ∧ c.depth ≤ p.2 ∧ d = dW p.1.N c
theorem cl__law_concept (T : Txt K mg aA) : ∀ n : Nat, Cl PR w K mg base (n + 2) "_law_concept" ["_law_draws_here", "_law_names_here", "_law_sizes_here", "_law_depth"] (spG K (preLc n) postLc)
  | 0 => cl_noneG T.d__law_concept (fun _ _ _ _ _ _ us hl => match us, hl with | [_, _, _, _], _ => rfl) fun p ds h => absurd h.2.1 (Nat.not_lt_zero _)
  | n + 1 => by
    obtain ⟨f1, fd1, G__law_concept, m__law_concept, k__law_concept, b__law_concept⟩ := cl__law_concept T n
    obtain ⟨f2, fd2, G__law_take, m__law_take, k__law_take, b__law_take⟩ := cl__law_take (PR := PR) (w := w) (base := base) T
    obtain ⟨f3, fd3, G__law_role, m__law_role, k__law_role, b__law_role⟩ := cl__law_role (PR := PR) (w := w) (base := base) T
    refine okG T.d__law_concept sc__law_concept (fun p ds h => by rw [h.2.2]; rfl) (fun _ _ _ _ _ _ us hl => match us, hl with | [_, _, _, _], _ => rfl) (fun f cdv A outer s H E hr => ⟨_, (pss_cons (ps_set (i := 4) sc__law_concept.nd rfl (Or.inl rfl) (pe_call G__law_take (hr.mono (by omega)) rfl m__law_take k__law_take b__law_take .nil pass0 (pa_cons (pv 0) (pa_cons pe_int pa_nil))))
    (pss_cons (ps_if (PW.pt (pw_or (pt_cmpR op_eq (pv 3) pe_int (nomark _)) (pw_or1 (pt_cmpR op_lt (pv 4) pe_int (nomark _))))) (pss_cons (ps_if (pt_cmpR op_eq (pv 4) pe_int (nomark _)) (pss_one (ps_ret (pe_ix (ix_k (K := K) rfl) (pe_tup (pa_cons (pe_tup (pa_cons pe_str pa_nil)) (pa_cons (pe_tup (pa_cons pe_str pa_nil)) pa_nil))) (pe_call G__law_take (hr.mono (by omega)) rfl m__law_take k__law_take b__law_take .nil pass0 (pa_cons (pv 0) (pa_cons pe_int pa_nil))) (fun _ _ => rfl)))) pss_nil)
    (pss_one (ps_ret (pe_tup (pa_cons pe_str (pa_cons (pe_ix (ix_k (K := K) rfl) (pe_ix (ix_k (K := K) rfl) (pv 1) pe_int (fun _ _ => rfl)) (pe_call G__law_take (hr.mono (by omega)) rfl m__law_take k__law_take b__law_take .nil pass0 (pa_cons (pv 0) (pa_cons (pe_ix (ix_k (K := K) rfl) (pv 2) pe_int (fun _ _ => rfl)) pa_nil))) (fun _ _ => rfl)) pa_nil)))))) pss_nil)
    (pss_cons (ps_if (pt_cmpR op_lt (pv 4) pe_int (nomark _)) (pss_one (ps_ret (pe_tup (pa_cons pe_str (pa_cons (pe_call G__law_concept (hr.mono (by omega)) rfl m__law_concept k__law_concept b__law_concept .nil pass0 (pa_cons (pv 0) (pa_cons (pv 1) (pa_cons (pv 2) (pa_cons (pe_op op_sub (pv 3) pe_int) pa_nil))))) pa_nil))))) pss_nil)
    (pss_cons (ps_if (PW.pt (pw_and (pt_cmpR op_lt (pv 4) pe_int (nomark _)) (pw_and1 (pt_cmpR op_gt (pe_ix (ix_k (K := K) rfl) (pv 2) pe_int (fun _ _ => rfl)) pe_int (nomark _))))) (pss_cons (ps_set (i := 5) sc__law_concept.nd rfl (Or.inl rfl) (pe_call G__law_role (hr.mono (by omega)) rfl m__law_role k__law_role b__law_role .nil pass0 (pa_cons (pv 0) (pa_cons (pv 1) (pa_cons (pv 2) pa_nil)))))
    (pss_cons (ps_set (i := 6) sc__law_concept.nd rfl (Or.inl rfl) (pe_ix (ix_k (K := K) rfl) (pe_tup (pa_cons pe_str (pa_cons pe_str (pa_cons pe_str pa_nil)))) (pe_op op_sub (pv 4) pe_int) (fun _ _ => rfl)))
    (pss_one (ps_ret (pe_tup (pa_cons (pv 6) (pa_cons (pv 5) (pa_cons (pe_call G__law_concept (hr.mono (by omega)) rfl m__law_concept k__law_concept b__law_concept .nil pass0 (pa_cons (pv 0) (pa_cons (pv 1) (pa_cons (pv 2) (pa_cons (pe_op op_sub (pv 3) pe_int) pa_nil))))) pa_nil)))))))) pss_nil)
    (pss_cons (ps_set (i := 7) sc__law_concept.nd rfl (Or.inl rfl) (pe_call G__law_concept (hr.mono (by omega)) rfl m__law_concept k__law_concept b__law_concept .nil pass0 (pa_cons (pv 0) (pa_cons (pv 1) (pa_cons (pv 2) (pa_cons (pe_op op_sub (pv 3) pe_int) pa_nil))))))
    (pss_cons (ps_set (i := 6) sc__law_concept.nd rfl (Or.inl rfl) (pe_ix (ix_k (K := K) rfl) (pe_tup (pa_cons pe_str (pa_cons pe_str pa_nil))) (pe_call G__law_take (hr.mono (by omega)) rfl m__law_take k__law_take b__law_take .nil pass0 (pa_cons (pv 0) (pa_cons pe_int pa_nil))) (fun _ _ => rfl)))
    (pss_one (ps_ret (pe_tup (pa_cons (pv 6) (pa_cons (pv 7) (pa_cons (pe_call G__law_concept (hr.mono (by omega)) rfl m__law_concept k__law_concept b__law_concept .nil pass0 (pa_cons (pv 0) (pa_cons (pv 1) (pa_cons (pv 2) (pa_cons (pe_op op_sub (pv 3) pe_int) pa_nil))))) pa_nil)))))))))))), ?_⟩)
    rintro ⟨g, k⟩ ds Z a wh Q ⟨ok, hk, rfl⟩ q
    replace hk : k < n + 1 := hk
    refine nx_sa <| ed_take rfl <| ed_int ⟨12, rfl, by decide, fun r hr12 => ?_⟩
    refine nx_si <| (eb_or2 (eb_test <| ed_op <| ed_var rfl <| ed_int <| od_eq ⟨_, rfl, _, rfl, rfl⟩) (eb_test <| ed_op <| ed_var rfl <| ed_int <| od_lt ⟨_, _, rfl, rfl, _, rfl, rfl⟩)).mono fun b e => ⟨fun hb => ?_, fun hb => ?_⟩
    · refine nx_si <| eb_test <| ed_op <| ed_var rfl <| ed_int <| od_eq ⟨_, rfl, _, rfl, fun _ => ?_, fun _ => ?_⟩
      · refine nx_ret q <| ed_op <| ed_tup <| ea_cons <| ed_tup <| ea_cons <| ed_str <| ea_nil ⟨sm rfl, ea_cons <| ed_tup <| ea_cons <| ed_str <| ea_nil ⟨sm rfl, ea_nil ⟨sm rfl, ?_⟩⟩⟩
        refine ed_take rfl <| ed_int ⟨2, rfl, by decide, fun r2 h2 => ?_⟩
        have h2' : r2 = 0 ∨ r2 = 1 := by omega
        rcases h2' with rfl | rfl
        · exact od_ix ⟨_, rfl, .anything, trivial, Nat.zero_le _, rfl⟩
        · exact od_ix ⟨_, rfl, .nothing, trivial, Nat.zero_le _, rfl⟩
      · refine nx_ret q <| ed_tup <| ea_cons <| ed_str <| ea_cons <| ed_op <| ed_op <| ed_var rfl <| ed_int <| od_ix ⟨_, rfl, ed_take rfl <| ed_op <| ed_var rfl <| ed_int <| od_ix ⟨_, rfl, g.nc, rfl, ok.pc, fun r2 h2 => od_ix ⟨_, strs_get (Nat.lt_of_lt_of_le h2 ok.lc), ?_⟩⟩⟩
        exact ea_nil ⟨sm rfl, .name r2, h2, Nat.zero_le _, rfl⟩
    have hne : k ≠ 0 ∧ 4 ≤ r := by
      rw [hb] at e
      have e' := Bool.or_eq_false_iff.mp e.symm
      have z1 := of_decide_eq_false e'.1
      have z2 := of_decide_eq_false e'.2
      replace z1 : ¬ (k : Int) = 0 := z1
      omega
    have ek : (k : Int) - 1 = ((k - 1 : Nat) : Int) := by omega
    have sub : ∀ {c : Cn} {δ : List SD} {Hb : Hp} {P : Da → Prop}, δ[0]? = some (.il a) → δ[1]? = some (.dat (names g.N)) → δ[2]? = some (.dat (sizes g)) → δ[3]? = some (.dat (.int (k : Int))) → (∀ c' : WC, c'.wf g.nc g.nr → c'.depth ≤ k - 1 → P (dW g.N c')) →
        Ed K c δ Hb (tCall (spG K (preLc n) postLc) [] E0 (tCons (tVar 0) (tCons (tVar 1) (tCons (tVar 2) (tCons (tOp (rI0 fun i j => .int (i - j)) (tVar 3) (tC (.int 1))) tNil))))) P := fun h0 h1 h2 h3 hP => by
      refine ed_callG h0 <| ea_cons <| ed_var h1 <| ea_cons <| ed_var h2 <| ea_cons <| ed_op <| ed_var h3 <| ed_int <| od_sub ⟨_, _, rfl, rfl, ?_⟩
      refine ea_nil ⟨(g, k - 1), ⟨ok, by show k - 1 < n; omega, by rw [ek]⟩, fun d ⟨c', wf, hd, e⟩ => ?_⟩
      rw [e]
      exact hP c' wf hd
    refine nx_si <| eb_test <| ed_op <| ed_var rfl <| ed_int <| od_lt ⟨_, _, rfl, rfl, _, rfl, fun _ => ?_, fun h6 => ?_⟩
    · refine nx_ret q <| ed_tup <| ea_cons <| ed_str <| ea_cons <| sub rfl rfl rfl rfl fun c' wf hd => ?_
      exact ea_nil ⟨sm rfl, .not c', wf, by show c'.depth + 1 ≤ k; omega, rfl⟩
    have h6' : 6 ≤ r := by
      have z := of_decide_eq_false h6
      omega
    refine nx_si <| (eb_and2 (eb_test <| ed_op <| ed_var rfl <| ed_int <| od_lt ⟨_, _, rfl, rfl, _, rfl, rfl⟩) (eb_test <| ed_op <| ed_op <| ed_var rfl <| ed_int <| od_ix ⟨_, rfl, ed_int <| od_gt ⟨_, _, rfl, rfl, _, rfl, rfl⟩⟩)).mono fun b e => ⟨fun hb => ?_, fun hb => ?_⟩
    · have hlt : r < 9 ∧ 0 < g.nr := by
        rw [hb] at e
        have e' := Bool.and_eq_true_iff.mp e.symm
        have z1 := of_decide_eq_true e'.1
        have z2 := of_decide_eq_true e'.2
        replace z2 : (0 : Int) < (g.nr : Int) := z2
        omega
      refine nx_sa <| ed_callG rfl <| ea_cons <| ed_var rfl <| ea_cons <| ed_var rfl <| ea_nil ⟨g, ⟨ok, hlt.2, rfl⟩, fun d ⟨ro, hro, ed⟩ => ?_⟩
      subst ed
      have h678 : r = 6 ∨ r = 7 ∨ r = 8 := by omega
      rcases h678 with rfl | rfl | rfl
      · refine nx_sa <| ed_op <| ed_tup <| ea_cons <| ed_str <| ea_cons <| ed_str <| ea_cons <| ed_str <| ea_nil ⟨sm rfl, ed_op <| ed_var rfl <| ed_int <| od_sub ⟨_, _, rfl, rfl, od_ix ⟨_, rfl, ?_⟩⟩⟩
        refine nx_ret q <| ed_tup <| ea_cons <| ed_var rfl <| ea_cons <| ed_var rfl <| ea_cons <| sub rfl rfl rfl rfl fun c' wf hd => ?_
        exact ea_nil ⟨sm rfl, .some ro c', ⟨hro, wf⟩, by show c'.depth + 1 ≤ k; omega, rfl⟩
      · refine nx_sa <| ed_op <| ed_tup <| ea_cons <| ed_str <| ea_cons <| ed_str <| ea_cons <| ed_str <| ea_nil ⟨sm rfl, ed_op <| ed_var rfl <| ed_int <| od_sub ⟨_, _, rfl, rfl, od_ix ⟨_, rfl, ?_⟩⟩⟩
        refine nx_ret q <| ed_tup <| ea_cons <| ed_var rfl <| ea_cons <| ed_var rfl <| ea_cons <| sub rfl rfl rfl rfl fun c' wf hd => ?_
        exact ea_nil ⟨sm rfl, .all ro c', ⟨hro, wf⟩, by show c'.depth + 1 ≤ k; omega, rfl⟩
      · refine nx_sa <| ed_op <| ed_tup <| ea_cons <| ed_str <| ea_cons <| ed_str <| ea_cons <| ed_str <| ea_nil ⟨sm rfl, ed_op <| ed_var rfl <| ed_int <| od_sub ⟨_, _, rfl, rfl, od_ix ⟨_, rfl, ?_⟩⟩⟩
        refine nx_ret q <| ed_tup <| ea_cons <| ed_var rfl <| ea_cons <| ed_var rfl <| ea_cons <| sub rfl rfl rfl rfl fun c' wf hd => ?_
        exact ea_nil ⟨sm rfl, .some ro c', ⟨hro, wf⟩, by show c'.depth + 1 ≤ k; omega, rfl⟩
    · refine nx_sa <| sub rfl rfl rfl rfl fun c1 wf1 hd1 => ?_
      refine nx_sa <| ed_op <| ed_tup <| ea_cons <| ed_str <| ea_cons <| ed_str <| ea_nil ⟨sm rfl, ed_take rfl <| ed_int ⟨2, rfl, by decide, fun r2 h2 => ?_⟩⟩
      have h2' : r2 = 0 ∨ r2 = 1 := by omega
      rcases h2' with rfl | rfl
      · refine od_ix ⟨_, rfl, ?_⟩
        refine nx_ret q <| ed_tup <| ea_cons <| ed_var rfl <| ea_cons <| ed_var rfl <| ea_cons <| sub rfl rfl rfl rfl fun c' wf hd => ?_
        exact ea_nil ⟨sm rfl, .and c1 c', ⟨wf1, wf⟩, by show max c1.depth c'.depth + 1 ≤ k; omega, rfl⟩
      · refine od_ix ⟨_, rfl, ?_⟩
        refine nx_ret q <| ed_tup <| ea_cons <| ed_var rfl <| ea_cons <| ed_var rfl <| ea_cons <| sub rfl rfl rfl rfl fun c' wf hd => ?_
        exact ea_nil ⟨sm rfl, .or c1 c', ⟨wf1, wf⟩, by show max c1.depth c'.depth + 1 ≤ k; omega, rfl⟩
end
end Kw

/-! the law's generators: statements, questions -/
namespace Kw
open PySem PySem.Spec PyProof.Rows L2 Evl
section
variable {PR : Program} {w : World} {K : PySem.W.Frag} {mg : Str → Option Value} {base : Heap} {aA : Addr} {c : Cn} {δ : List SD} {Hb : Hp} {P : Da → Prop} {g : Gp} {a : Addr}
theorem ed_con {n k : Nat} (ok : g.ok) (hk : k < n) (h0 : δ[0]? = some (.il a)) (h1 : δ[1]? = some (.dat (names g.N))) (h2 : δ[2]? = some (.dat (sizes g))) (h3 : δ[3]? = some (.dat (.int (k : Int)))) (hP : ∀ c' : WC, c'.wf g.nc g.nr → c'.depth ≤ k → P (dW g.N c')) :
    Ed K c δ Hb (tCall (spG K (preLc n) postLc) [] E0 (tCons (tVar 0) (tCons (tVar 1) (tCons (tVar 2) (tCons (tVar 3) tNil))))) P := by
  refine ed_callG h0 <| ea_cons <| ed_var h1 <| ea_cons <| ed_var h2 <| ea_cons <| ed_var h3 <| ea_nil ⟨(g, k), ⟨ok, hk, rfl⟩, fun d ⟨c', wf, hd, e⟩ => ?_⟩
  rw [e]
  exact hP c' wf hd
theorem ed_rol (ok : g.ok) (hn : 0 < g.nr) (h0 : δ[0]? = some (.il a)) (h1 : δ[1]? = some (.dat (names g.N))) (h2 : δ[2]? = some (.dat (sizes g))) (hP : ∀ r : Ro, r.1 < g.nr → P (dRw g.N r)) :
    Ed K c δ Hb (tCall (spG K preLr postLr) [] E0 (tCons (tVar 0) (tCons (tVar 1) (tCons (tVar 2) tNil)))) P := by
  refine ed_callG h0 <| ea_cons <| ed_var h1 <| ea_cons <| ed_var h2 <| ea_nil ⟨g, ⟨ok, hn, rfl⟩, fun d ⟨r, hr, e⟩ => ?_⟩
  rw [e]
  exact hP r hr
theorem ed_nmI (ok : g.ok) (hn : 0 < g.ni) (h0 : δ[0]? = some (.il a)) (h1 : δ[1]? = some (.dat (names g.N))) (h2 : δ[2]? = some (.dat (sizes g))) (hP : ∀ r, r < g.ni → P (.str (nmAt g.N.is r))) :
    Ed K c δ Hb (tOp (rIx K) (tOp (rIx K) (tVar 1) (tC (.int 2))) (tCall (spG K preTk postTk) [] E0 (tCons (tVar 0) (tCons (tOp (rIx K) (tVar 2) (tC (.int 2))) tNil)))) P := by
  refine ed_op <| ed_op <| ed_var h1 <| ed_int <| od_ix ⟨_, rfl, ed_take h0 <| ed_op <| ed_var h2 <| ed_int <| od_ix ⟨_, rfl, g.ni, rfl, hn, fun r hr => od_ix ⟨_, strs_get (Nat.lt_of_lt_of_le hr ok.li), hP r hr⟩⟩⟩
theorem ed_nmR (ok : g.ok) (hn : 0 < g.nr) (h0 : δ[0]? = some (.il a)) (h1 : δ[1]? = some (.dat (names g.N))) (h2 : δ[2]? = some (.dat (sizes g))) (hP : ∀ r, r < g.nr → P (.str (nmAt g.N.rs r))) :
    Ed K c δ Hb (tOp (rIx K) (tOp (rIx K) (tVar 1) (tC (.int 1))) (tCall (spG K preTk postTk) [] E0 (tCons (tVar 0) (tCons (tOp (rIx K) (tVar 2) (tC (.int 1))) tNil)))) P := by
  refine ed_op <| ed_op <| ed_var h1 <| ed_int <| od_ix ⟨_, rfl, ed_take h0 <| ed_op <| ed_var h2 <| ed_int <| od_ix ⟨_, rfl, g.nr, rfl, hn, fun r hr => od_ix ⟨_, strs_get (Nat.lt_of_lt_of_le hr ok.lr), hP r hr⟩⟩⟩
theorem and_t {x y b : Bool} (e : b = (x && y)) (h : b = true) : x = true ∧ y = true := Bool.and_eq_true_iff.mp (by rw [← e, h])
/-! ### _law_statement -/
def postLs (p : Gp × Nat) (d : Da) : Prop := ∃ s : WS, s.wf p.1 ∧ s.depth ≤ p.2 ∧ s ≠ .qu .never ∧ d = dS p.1.N s
theorem cl__law_statement (T : Txt K mg aA) (n : Nat) : Cl PR w K mg base (n + 3) "_law_statement" ["_law_draws_here", "_law_names_here", "_law_sizes_here", "_law_depth"] (spG K (preLc n) postLs) := by
  obtain ⟨f1, fd1, G__law_concept, m__law_concept, k__law_concept, b__law_concept⟩ := cl__law_concept (PR := PR) (w := w) (base := base) T n
  obtain ⟨f2, fd2, G__law_take, m__law_take, k__law_take, b__law_take⟩ := cl__law_take (PR := PR) (w := w) (base := base) T
  obtain ⟨f3, fd3, G__law_role, m__law_role, k__law_role, b__law_role⟩ := cl__law_role (PR := PR) (w := w) (base := base) T
  refine okG T.d__law_statement sc__law_statement (fun p ds h => by rw [h.2.2]; rfl) (fun _ _ _ _ _ _ us hl => match us, hl with | [_, _, _, _], _ => rfl) (fun f cdv A outer s H E hr => ⟨_, (pss_cons (ps_set (i := 4) sc__law_statement.nd rfl (Or.inl rfl) (pe_call G__law_take (hr.mono (by omega)) rfl m__law_take k__law_take b__law_take .nil pass0 (pa_cons (pv 0) (pa_cons pe_int pa_nil))))
    (pss_cons (ps_if (PW.pt (pw_and (pt_cmpR op_gt (pv 4) pe_int (nomark _)) (pw_and1 (pt_cmpR op_gt (pe_ix (ix_k (K := K) rfl) (pv 2) pe_int (fun _ _ => rfl)) pe_int (nomark _))))) (pss_cons (ps_set (i := 5) sc__law_statement.nd rfl (Or.inl rfl) (pe_ix (ix_k (K := K) rfl) (pe_ix (ix_k (K := K) rfl) (pv 1) pe_int (fun _ _ => rfl)) (pe_call G__law_take (hr.mono (by omega)) rfl m__law_take k__law_take b__law_take .nil pass0 (pa_cons (pv 0) (pa_cons (pe_ix (ix_k (K := K) rfl) (pv 2) pe_int (fun _ _ => rfl)) pa_nil))) (fun _ _ => rfl)))
    (pss_cons (ps_if (PW.pt (pw_and (pt_cmpR op_eq (pv 4) pe_int (nomark _)) (pw_and1 (pt_cmpR op_gt (pe_ix (ix_k (K := K) rfl) (pv 2) pe_int (fun _ _ => rfl)) pe_int (nomark _))))) (pss_cons (ps_set (i := 6) sc__law_statement.nd rfl (Or.inl rfl) (pe_ix (ix_k (K := K) rfl) (pe_ix (ix_k (K := K) rfl) (pv 1) pe_int (fun _ _ => rfl)) (pe_call G__law_take (hr.mono (by omega)) rfl m__law_take k__law_take b__law_take .nil pass0 (pa_cons (pv 0) (pa_cons (pe_ix (ix_k (K := K) rfl) (pv 2) pe_int (fun _ _ => rfl)) pa_nil))) (fun _ _ => rfl)))
    (pss_one (ps_ret (pe_tup (pa_cons pe_str (pa_cons (pv 5) (pa_cons (pv 6) (pa_cons (pe_ix (ix_k (K := K) rfl) (pe_ix (ix_k (K := K) rfl) (pv 1) pe_int (fun _ _ => rfl)) (pe_call G__law_take (hr.mono (by omega)) rfl m__law_take k__law_take b__law_take .nil pass0 (pa_cons (pv 0) (pa_cons (pe_ix (ix_k (K := K) rfl) (pv 2) pe_int (fun _ _ => rfl)) pa_nil))) (fun _ _ => rfl)) pa_nil)))))))) pss_nil)
    (pss_one (ps_ret (pe_tup (pa_cons pe_str (pa_cons (pv 5) (pa_cons (pe_call G__law_concept (hr.mono (by omega)) rfl m__law_concept k__law_concept b__law_concept .nil pass0 (pa_cons (pv 0) (pa_cons (pv 1) (pa_cons (pv 2) (pa_cons (pv 3) pa_nil))))) pa_nil)))))))) pss_nil)
    (pss_cons (ps_if (PW.pt (pw_and (pt_cmpR op_gt (pv 4) pe_int (nomark _)) (pw_and1 (pt_cmpR op_gt (pe_ix (ix_k (K := K) rfl) (pv 2) pe_int (fun _ _ => rfl)) pe_int (nomark _))))) (pss_cons (ps_set (i := 6) sc__law_statement.nd rfl (Or.inl rfl) (pe_call G__law_role (hr.mono (by omega)) rfl m__law_role k__law_role b__law_role .nil pass0 (pa_cons (pv 0) (pa_cons (pv 1) (pa_cons (pv 2) pa_nil)))))
    (pss_cons (ps_if (pt_cmpR op_eq (pv 4) pe_int (nomark _)) (pss_one (ps_ret (pe_tup (pa_cons pe_str (pa_cons (pv 6) (pa_cons (pe_call G__law_concept (hr.mono (by omega)) rfl m__law_concept k__law_concept b__law_concept .nil pass0 (pa_cons (pv 0) (pa_cons (pv 1) (pa_cons (pv 2) (pa_cons (pv 3) pa_nil))))) pa_nil)))))) pss_nil)
    (pss_cons (ps_if (pt_cmpR op_eq (pv 4) pe_int (nomark _)) (pss_one (ps_ret (pe_tup (pa_cons pe_str (pa_cons (pv 6) (pa_cons (pe_call G__law_concept (hr.mono (by omega)) rfl m__law_concept k__law_concept b__law_concept .nil pass0 (pa_cons (pv 0) (pa_cons (pv 1) (pa_cons (pv 2) (pa_cons (pv 3) pa_nil))))) pa_nil)))))) pss_nil)
    (pss_cons (ps_if (pt_cmpR op_eq (pv 4) pe_int (nomark _)) (pss_one (ps_ret (pe_tup (pa_cons pe_str (pa_cons (pe_ix (ix_k (K := K) rfl) (pv 6) pe_int (fun _ _ => rfl)) (pa_cons (pe_ix (ix_k (K := K) rfl) (pe_ix (ix_k (K := K) rfl) (pv 1) pe_int (fun _ _ => rfl)) (pe_call G__law_take (hr.mono (by omega)) rfl m__law_take k__law_take b__law_take .nil pass0 (pa_cons (pv 0) (pa_cons (pe_ix (ix_k (K := K) rfl) (pv 2) pe_int (fun _ _ => rfl)) pa_nil))) (fun _ _ => rfl)) pa_nil)))))) pss_nil)
    (pss_one (ps_ret (pe_tup (pa_cons pe_str (pa_cons (pv 6) (pa_cons (pe_call G__law_role (hr.mono (by omega)) rfl m__law_role k__law_role b__law_role .nil pass0 (pa_cons (pv 0) (pa_cons (pv 1) (pa_cons (pv 2) pa_nil)))) pa_nil)))))))))) pss_nil)
    (pss_cons (ps_set (i := 7) sc__law_statement.nd rfl (Or.inl rfl) (pe_ix (ix_k (K := K) rfl) (pe_tup (pa_cons pe_str (pa_cons pe_str (pa_cons pe_str (pa_cons pe_str (pa_cons pe_str pa_nil)))))) (pe_callB (call_min2 rfl) rfl T.mmin (by decide +kernel) (pa_cons (pv 4) (pa_cons pe_int pa_nil))) (fun _ _ => rfl)))
    (pss_cons (ps_set (i := 8) sc__law_statement.nd rfl (Or.inl rfl) (pe_call G__law_concept (hr.mono (by omega)) rfl m__law_concept k__law_concept b__law_concept .nil pass0 (pa_cons (pv 0) (pa_cons (pv 1) (pa_cons (pv 2) (pa_cons (pv 3) pa_nil))))))
    (pss_one (ps_ret (pe_tup (pa_cons (pv 7) (pa_cons (pv 8) (pa_cons (pe_call G__law_concept (hr.mono (by omega)) rfl m__law_concept k__law_concept b__law_concept .nil pass0 (pa_cons (pv 0) (pa_cons (pv 1) (pa_cons (pv 2) (pa_cons (pv 3) pa_nil))))) pa_nil))))))))))), ?_⟩)
  rintro ⟨g, k⟩ ds Z a wh Q ⟨ok, hk, rfl⟩ q
  replace hk : k < n := hk
  refine nx_sa <| ed_take rfl <| ed_int ⟨12, rfl, by decide, fun r hr12 => ?_⟩
  refine nx_si <| (eb_and2 (eb_test <| ed_op <| ed_var rfl <| ed_int <| od_gt ⟨_, _, rfl, rfl, _, rfl, rfl⟩) (eb_test <| ed_op <| ed_op <| ed_var rfl <| ed_int <| od_ix ⟨_, rfl, ed_int <| od_gt ⟨_, _, rfl, rfl, _, rfl, rfl⟩⟩)).mono fun b e => ⟨fun hb => ?_, fun hb => ?_⟩
  · have hi : 0 < g.ni := by
      have z := of_decide_eq_true (and_t e hb).2
      replace z : (0 : Int) < (g.ni : Int) := z
      omega
    refine nx_sa <| ed_nmI ok hi rfl rfl rfl fun x hx => ?_
    refine nx_si <| (eb_and2 (eb_test <| ed_op <| ed_var rfl <| ed_int <| od_eq ⟨_, rfl, _, rfl, rfl⟩) (eb_test <| ed_op <| ed_op <| ed_var rfl <| ed_int <| od_ix ⟨_, rfl, ed_int <| od_gt ⟨_, _, rfl, rfl, _, rfl, rfl⟩⟩)).mono fun b e => ⟨fun hb => ?_, fun hb => ?_⟩
    · have hn : 0 < g.nr := by
        have z := of_decide_eq_true (and_t e hb).2
        replace z : (0 : Int) < (g.nr : Int) := z
        omega
      refine nx_sa <| ed_nmR ok hn rfl rfl rfl fun r hr => ?_
      refine nx_ret q <| ed_tup <| ea_cons <| ed_str <| ea_cons <| ed_var rfl <| ea_cons <| ed_var rfl <| ea_cons <| ed_nmI ok hi rfl rfl rfl fun y hy => ?_
      exact ea_nil ⟨sm rfl, .qu (.has x r y), ⟨hx, hr, hy⟩, Nat.zero_le _, (fun z => by cases z), rfl⟩
    · refine nx_ret q <| ed_tup <| ea_cons <| ed_str <| ea_cons <| ed_var rfl <| ea_cons <| ed_con ok hk rfl rfl rfl rfl fun c' wf hd => ?_
      exact ea_nil ⟨sm rfl, .qu (.is x c'), ⟨hx, wf⟩, hd, (fun z => by cases z), rfl⟩
  refine nx_si <| (eb_and2 (eb_test <| ed_op <| ed_var rfl <| ed_int <| od_gt ⟨_, _, rfl, rfl, _, rfl, rfl⟩) (eb_test <| ed_op <| ed_op <| ed_var rfl <| ed_int <| od_ix ⟨_, rfl, ed_int <| od_gt ⟨_, _, rfl, rfl, _, rfl, rfl⟩⟩)).mono fun b e => ⟨fun hb => ?_, fun hb => ?_⟩
  · have hn : 0 < g.nr := by
      have z := of_decide_eq_true (and_t e hb).2
      replace z : (0 : Int) < (g.nr : Int) := z
      omega
    refine nx_sa <| ed_rol ok hn rfl rfl rfl fun ro hro => ?_
    refine nx_si <| eb_test <| ed_op <| ed_var rfl <| ed_int <| od_eq ⟨_, rfl, _, rfl, fun _ => ?_, fun _ => ?_⟩
    · refine nx_ret q <| ed_tup <| ea_cons <| ed_str <| ea_cons <| ed_var rfl <| ea_cons <| ed_con ok hk rfl rfl rfl rfl fun c' wf hd => ?_
      exact ea_nil ⟨sm rfl, .domain ro c', ⟨hro, wf⟩, hd, (fun z => by cases z), rfl⟩
    refine nx_si <| eb_test <| ed_op <| ed_var rfl <| ed_int <| od_eq ⟨_, rfl, _, rfl, fun _ => ?_, fun _ => ?_⟩
    · refine nx_ret q <| ed_tup <| ea_cons <| ed_str <| ea_cons <| ed_var rfl <| ea_cons <| ed_con ok hk rfl rfl rfl rfl fun c' wf hd => ?_
      exact ea_nil ⟨sm rfl, .range ro c', ⟨hro, wf⟩, hd, (fun z => by cases z), rfl⟩
    refine nx_si <| eb_test <| ed_op <| ed_var rfl <| ed_int <| od_eq ⟨_, rfl, _, rfl, fun _ => ?_, fun _ => ?_⟩
    · refine nx_ret q <| ed_tup <| ea_cons <| ed_str <| ea_cons <| ed_op <| ed_var rfl <| ed_int <| od_ix ⟨_, rfl, ?_⟩
      refine ea_cons <| ed_nmR ok hn rfl rfl rfl fun r2 hr2 => ?_
      exact ea_nil ⟨sm rfl, .inverse ro.1 r2, ⟨hro, hr2⟩, Nat.zero_le _, (fun z => by cases z), rfl⟩
    · refine nx_ret q <| ed_tup <| ea_cons <| ed_str <| ea_cons <| ed_var rfl <| ea_cons <| ed_rol ok hn rfl rfl rfl fun r2 hr2 => ?_
      exact ea_nil ⟨sm rfl, .under ro r2, ⟨hro, hr2⟩, Nat.zero_le _, (fun z => by cases z), rfl⟩
  · have last : ∀ (wd : Str) (mk : WC → WC → WS), (∀ c d, dS g.N (mk c d) = .tup [.str wd, dW g.N c, dW g.N d]) → (∀ c d, c.wf g.nc g.nr → d.wf g.nc g.nr → (mk c d).wf g) → (∀ c d, c.depth ≤ k → d.depth ≤ k → (mk c d).depth ≤ k) → (∀ c d, mk c d ≠ .qu .never) →
        Nx K ⟨Z, [a], wh⟩ [.il a, .dat (names g.N), .dat (sizes g), .dat (.int (k : Int)), .dat (.int (r : Int)), .no, .no, .dat (.str wd), .no] H
          (tSeq (tAsg (tCall (spG K (preLc n) postLc) [] E0 (tCons (tVar 0) (tCons (tVar 1) (tCons (tVar 2) (tCons (tVar 3) tNil))))) (gName 8))
            (tRet (tTup (tCons (tVar 7) (tCons (tVar 8) (tCons (tCall (spG K (preLc n) postLc) [] E0 (tCons (tVar 0) (tCons (tVar 1) (tCons (tVar 2) (tCons (tVar 3) tNil))))) tNil))))) { nx := fun _ H' => Q .non H', rt := Q }) := fun wd mk h1 h2 h3 h4 => by
      refine nx_sa <| ed_con ok hk rfl rfl rfl rfl fun c1 wf1 hd1 => ?_
      refine nx_ret q <| ed_tup <| ea_cons <| ed_var rfl <| ea_cons <| ed_var rfl <| ea_cons <| ed_con ok hk rfl rfl rfl rfl fun c' wf hd => ?_
      exact ea_nil ⟨sm rfl, mk c1 c', h2 _ _ wf1 wf, h3 _ _ hd1 hd, h4 _ _, (h1 _ _).symm⟩
    have h5 : r = 0 ∨ r = 1 ∨ r = 2 ∨ r = 3 ∨ 4 ≤ r := by omega
    have lb := last "below" (fun c d => .qu (.below c d)) (fun _ _ => rfl) (fun _ _ h h' => ⟨h, h'⟩) (fun _ _ h h' => Nat.max_le.mpr ⟨h, h'⟩) (fun _ _ z => by cases z)
    refine nx_sa <| ed_op <| ed_tup <| ea_cons <| ed_str <| ea_cons <| ed_str <| ea_cons <| ed_str <| ea_cons <| ed_str <| ea_cons <| ed_str <| ea_nil ⟨sm rfl, ed_cb <| ea_cons <| ed_var rfl <| ea_cons <| ed_int <| ea_nil <| cb_min2 ⟨_, _, rfl, ?_⟩⟩
    rcases h5 with rfl | rfl | rfl | rfl | h5
    · exact od_ix ⟨_, rfl, lb⟩
    · exact od_ix ⟨_, rfl, lb⟩
    · exact od_ix ⟨_, rfl, last "equals" .equals (fun _ _ => rfl) (fun _ _ h h' => ⟨h, h'⟩) (fun _ _ h h' => Nat.max_le.mpr ⟨h, h'⟩) (fun _ _ z => by cases z)⟩
    · exact od_ix ⟨_, rfl, last "apart" .apart (fun _ _ => rfl) (fun _ _ h h' => ⟨h, h'⟩) (fun _ _ h h' => Nat.max_le.mpr ⟨h, h'⟩) (fun _ _ z => by cases z)⟩
    · have e4 : (if (4 : Int) < (r : Int) then (4 : Int) else (r : Int)) = 4 := by
        split
        · rfl
        · omega
      rw [e4]
      exact od_ix ⟨_, rfl, lb⟩
/-! ### _law_question -/
def postLq (p : Gp × Nat) (d : Da) : Prop := ∃ s : WQ, s.wf p.1 ∧ s.depth ≤ p.2 ∧ d = dQ p.1.N s
theorem cl__law_question (T : Txt K mg aA) (n : Nat) : Cl PR w K mg base (n + 3) "_law_question" ["_law_draws_here", "_law_names_here", "_law_sizes_here", "_law_depth"] (spG K (preLc n) postLq) := by
  obtain ⟨f1, fd1, G__law_concept, m__law_concept, k__law_concept, b__law_concept⟩ := cl__law_concept (PR := PR) (w := w) (base := base) T n
  obtain ⟨f2, fd2, G__law_take, m__law_take, k__law_take, b__law_take⟩ := cl__law_take (PR := PR) (w := w) (base := base) T
  refine okG T.d__law_question sc__law_question (fun p ds h => by rw [h.2.2]; rfl) (fun _ _ _ _ _ _ us hl => match us, hl with | [_, _, _, _], _ => rfl) (fun f cdv A outer s H E hr => ⟨_, (pss_cons (ps_set (i := 4) sc__law_question.nd rfl (Or.inl rfl) (pe_call G__law_take (hr.mono (by omega)) rfl m__law_take k__law_take b__law_take .nil pass0 (pa_cons (pv 0) (pa_cons pe_int pa_nil))))
    (pss_cons (ps_if (pt_cmpR op_eq (pv 4) pe_int (nomark _)) (pss_one (ps_ret (pe_tup (pa_cons pe_str pa_nil)))) pss_nil)
    (pss_cons (ps_if (PW.pt (pw_and (pt_cmpR op_gt (pv 4) pe_int (nomark _)) (pw_and1 (pt_cmpR op_gt (pe_ix (ix_k (K := K) rfl) (pv 2) pe_int (fun _ _ => rfl)) pe_int (nomark _))))) (pss_cons (ps_set (i := 5) sc__law_question.nd rfl (Or.inl rfl) (pe_ix (ix_k (K := K) rfl) (pe_ix (ix_k (K := K) rfl) (pv 1) pe_int (fun _ _ => rfl)) (pe_call G__law_take (hr.mono (by omega)) rfl m__law_take k__law_take b__law_take .nil pass0 (pa_cons (pv 0) (pa_cons (pe_ix (ix_k (K := K) rfl) (pv 2) pe_int (fun _ _ => rfl)) pa_nil))) (fun _ _ => rfl)))
    (pss_cons (ps_if (PW.pt (pw_and (pt_cmpR op_eq (pv 4) pe_int (nomark _)) (pw_and1 (pt_cmpR op_gt (pe_ix (ix_k (K := K) rfl) (pv 2) pe_int (fun _ _ => rfl)) pe_int (nomark _))))) (pss_cons (ps_set (i := 6) sc__law_question.nd rfl (Or.inl rfl) (pe_ix (ix_k (K := K) rfl) (pe_ix (ix_k (K := K) rfl) (pv 1) pe_int (fun _ _ => rfl)) (pe_call G__law_take (hr.mono (by omega)) rfl m__law_take k__law_take b__law_take .nil pass0 (pa_cons (pv 0) (pa_cons (pe_ix (ix_k (K := K) rfl) (pv 2) pe_int (fun _ _ => rfl)) pa_nil))) (fun _ _ => rfl)))
    (pss_one (ps_ret (pe_tup (pa_cons pe_str (pa_cons (pv 5) (pa_cons (pv 6) (pa_cons (pe_ix (ix_k (K := K) rfl) (pe_ix (ix_k (K := K) rfl) (pv 1) pe_int (fun _ _ => rfl)) (pe_call G__law_take (hr.mono (by omega)) rfl m__law_take k__law_take b__law_take .nil pass0 (pa_cons (pv 0) (pa_cons (pe_ix (ix_k (K := K) rfl) (pv 2) pe_int (fun _ _ => rfl)) pa_nil))) (fun _ _ => rfl)) pa_nil)))))))) pss_nil)
    (pss_one (ps_ret (pe_tup (pa_cons pe_str (pa_cons (pv 5) (pa_cons (pe_call G__law_concept (hr.mono (by omega)) rfl m__law_concept k__law_concept b__law_concept .nil pass0 (pa_cons (pv 0) (pa_cons (pv 1) (pa_cons (pv 2) (pa_cons (pv 3) pa_nil))))) pa_nil)))))))) pss_nil)
    (pss_cons (ps_set (i := 7) sc__law_question.nd rfl (Or.inl rfl) (pe_call G__law_concept (hr.mono (by omega)) rfl m__law_concept k__law_concept b__law_concept .nil pass0 (pa_cons (pv 0) (pa_cons (pv 1) (pa_cons (pv 2) (pa_cons (pv 3) pa_nil))))))
    (pss_one (ps_ret (pe_tup (pa_cons pe_str (pa_cons (pv 7) (pa_cons (pe_call G__law_concept (hr.mono (by omega)) rfl m__law_concept k__law_concept b__law_concept .nil pass0 (pa_cons (pv 0) (pa_cons (pv 1) (pa_cons (pv 2) (pa_cons (pv 3) pa_nil))))) pa_nil)))))))))), ?_⟩)
  rintro ⟨g, k⟩ ds Z a wh Q ⟨ok, hk, rfl⟩ q
  replace hk : k < n := hk
  refine nx_sa <| ed_take rfl <| ed_int ⟨10, rfl, by decide, fun r hr10 => ?_⟩
  refine nx_si <| eb_test <| ed_op <| ed_var rfl <| ed_int <| od_eq ⟨_, rfl, _, rfl, fun _ => ?_, fun _ => ?_⟩
  · exact nx_ret q <| ed_tup <| ea_cons <| ed_str <| ea_nil ⟨sm rfl, .never, trivial, Nat.zero_le _, rfl⟩
  refine nx_si <| (eb_and2 (eb_test <| ed_op <| ed_var rfl <| ed_int <| od_gt ⟨_, _, rfl, rfl, _, rfl, rfl⟩) (eb_test <| ed_op <| ed_op <| ed_var rfl <| ed_int <| od_ix ⟨_, rfl, ed_int <| od_gt ⟨_, _, rfl, rfl, _, rfl, rfl⟩⟩)).mono fun b e => ⟨fun hb => ?_, fun hb => ?_⟩
  · have hi : 0 < g.ni := by
      have z := of_decide_eq_true (and_t e hb).2
      replace z : (0 : Int) < (g.ni : Int) := z
      omega
    refine nx_sa <| ed_nmI ok hi rfl rfl rfl fun x hx => ?_
    refine nx_si <| (eb_and2 (eb_test <| ed_op <| ed_var rfl <| ed_int <| od_eq ⟨_, rfl, _, rfl, rfl⟩) (eb_test <| ed_op <| ed_op <| ed_var rfl <| ed_int <| od_ix ⟨_, rfl, ed_int <| od_gt ⟨_, _, rfl, rfl, _, rfl, rfl⟩⟩)).mono fun b e => ⟨fun hb => ?_, fun hb => ?_⟩
    · have hn : 0 < g.nr := by
        have z := of_decide_eq_true (and_t e hb).2
        replace z : (0 : Int) < (g.nr : Int) := z
        omega
      refine nx_sa <| ed_nmR ok hn rfl rfl rfl fun r hr => ?_
      refine nx_ret q <| ed_tup <| ea_cons <| ed_str <| ea_cons <| ed_var rfl <| ea_cons <| ed_var rfl <| ea_cons <| ed_nmI ok hi rfl rfl rfl fun y hy => ?_
      exact ea_nil ⟨sm rfl, .has x r y, ⟨hx, hr, hy⟩, Nat.zero_le _, rfl⟩
    · refine nx_ret q <| ed_tup <| ea_cons <| ed_str <| ea_cons <| ed_var rfl <| ea_cons <| ed_con ok hk rfl rfl rfl rfl fun c' wf hd => ?_
      exact ea_nil ⟨sm rfl, .is x c', ⟨hx, wf⟩, hd, rfl⟩
  refine nx_sa <| ed_con ok hk rfl rfl rfl rfl fun c1 wf1 hd1 => ?_
  refine nx_ret q <| ed_tup <| ea_cons <| ed_str <| ea_cons <| ed_var rfl <| ea_cons <| ed_con ok hk rfl rfl rfl rfl fun c' wf hd => ?_
  exact ea_nil ⟨sm rfl, .below c1 c', ⟨wf1, wf⟩, Nat.max_le.mpr ⟨hd1, hd⟩, rfl⟩
end
end Kw

/-! the law's generators: the model -/
namespace Kw
open PySem PySem.Spec PyProof.Rows L2 Evl
section
variable {K : PySem.W.Frag} {c : Cn} {δ : List SD} {Hb : Hp} {te : TE} {tas : TA} {D : Ends} {u : TS}
theorem nx_saN {Pre : List Da → Prop} {E : XK} {i : Nat} (h : Ea K c δ Hb tas fun ds => Pre ds ∧ ∀ a, a ∉ c.Z → Hb a = none → Nx K (c.draw a) (δ.set i (.il a)) Hb (u D)) : Nx K c δ Hb (tSeq (tAsg (tCall (spN K Pre) [] E tas) (gName i)) u D) := nx_seq (nx_asgN h)
theorem nx_saSl {i k : Nat} {b : Addr} (hk : δ[k]? = some (.il b)) (h : Ed K c δ Hb te fun d => ∃ n : Int, d = .int n ∧ ∀ a, a ∉ c.Z → Hb a = none → Nx K (c.draw a) (δ.set i (.il a)) Hb (u D)) : Nx K c δ Hb (tSeq (tAsg (tSl (rSlL K) (tVar k) (tPart te) tNoPart) (gName i)) u D) := nx_seq (nx_asgSl hk h)
/-- the lists that are drawn from, in the slots, are among these -/
def IlIn (dl : List Addr) : List SD → Prop
  | [] => True
  | .il a :: r => a ∈ dl ∧ IlIn dl r
  | _ :: r => IlIn dl r
theorem Sl.undraw {H : Hp} {a : Addr} (na : a ∉ c.dl) : ∀ {xs : List (Option V)} {es : List SD}, Sl K (c.draw a) H xs es → IlIn c.dl es → Sl K c H xs es
  | _, _, .nil, _ => .nil
  | _, _, .cons (e := .no) _ t, n => .cons trivial (Sl.undraw na t n)
  | _, _, .cons (e := .dat _) ⟨v, q1, q2⟩ t, n => .cons ⟨v, q1, q2.to (hd_sub fun z hz => List.mem_cons_of_mem _ hz)⟩ (Sl.undraw na t n)
  | _, _, .cons (e := .ml b _) ⟨h1, h2, h3, vs, h4, h5⟩ t, n => by
    have h3' : b ∉ a :: c.dl := h3
    have h2' : b ∈ a :: c.Z := h2
    refine .cons ⟨h1, ?_, fun m => h3' (List.mem_cons_of_mem _ m), vs, h4, h5.to (hd_sub fun z hz => List.mem_cons_of_mem _ hz)⟩ (Sl.undraw na t n)
    rcases List.mem_cons.mp h2' with z | z
    · exact absurd (by rw [z]; exact List.mem_cons_self) h3'
    · exact z
  | _, _, .cons (e := .il b) ⟨h1, h2⟩ t, n => .cons ⟨h1, n.1⟩ (Sl.undraw na t n.2)
theorem nx_undraw {a : Addr} {k : L2.St → Hp → Prop} (hz : ∀ d ∈ c.dl, d ∈ c.Z) (na : a ∉ c.Z) (hb : Hb a = none) (il : IlIn c.dl δ) (h : Nx K c δ Hb k) : Nx K (c.draw a) δ Hb k := fun σ H r ok s => by
  have nd : a ∉ c.dl := fun m => na (hz a m)
  refine h σ H ⟨fun b o n e => r.keep b o (fun m => ?_) e, fun d m e => r.drw d (List.mem_cons_of_mem _ m) e⟩ ⟨fun z m => ok.live z (List.mem_cons_of_mem _ m), fun d m => ⟨hz d m, (ok.dlz d (List.mem_cons_of_mem _ m)).2⟩, ok.kn.trans (hd_sub fun z m => List.mem_cons_of_mem _ m)⟩ (Sl.undraw nd s il)
  rcases List.mem_cons.mp m with z | z
  · rw [z, hb] at e
    cases e
  · exact n z
theorem nx_dlz {k : L2.St → Hp → Prop} (h : (∀ d ∈ c.dl, d ∈ c.Z) → Nx K c δ Hb k) : Nx K c δ Hb k := fun σ H r ok s => h (fun d m => (ok.dlz d m).1) σ H r ok s
end
section
variable {PR : Program} {w : World} {K : PySem.W.Frag} {mg : Str → Option Value} {base : Heap} {aA : Addr}
/-! ### _law_model -/
structure Mp where
  ns : List Int
  first : Nat
  g : Gp
  most : Nat
def preMo (p : Mp) (ds : List Da) : Prop := 0 < p.most ∧ p.most ≤ 100 ∧ p.g.nc ≤ 100 ∧ p.g.nr ≤ 4 ∧ p.g.ni ≤ 100 ∧ ds = [.lst (p.ns.map Da.int), .int (p.first : Int), sizes p.g, .int (p.most : Int)]
def postMo (p : Mp) (d : Da) : Prop := ∃ M : Mo, M.ok p.g.ni ∧ d = dM M
theorem dN_snoc (t : List Nat) (i : Nat) : (t.map dN) ++ [.int (i : Int)] = (t ++ [i]).map dN := by rw [List.map_append]; rfl
theorem cl__law_model (T : Txt K mg aA) : Cl PR w K mg base 3 "_law_model" ["_law_script", "_law_first", "_law_sizes_here", "_law_most"] (spP K preMo postMo) := by
  obtain ⟨f1, fd1, G__law_take, m__law_take, k__law_take, b__law_take⟩ := cl__law_take (PR := PR) (w := w) (base := base) T
  obtain ⟨f2, fd2, G__law_draws, m__law_draws, k__law_draws, b__law_draws⟩ := cl__law_draws (PR := PR) (w := w) (base := base) T
  refine okP T.d__law_model sc__law_model (fun p ds h => by rw [h.2.2.2.2.2]; rfl) (fun _ _ _ _ _ _ us hl => match us, hl with | [_, _, _, _], _ => rfl) (fun f cdv A outer s H E hr => ⟨_, (pss_cons (ps_set (i := 4) sc__law_model.nd rfl (Or.inr rfl) (pe_call G__law_draws (hr.mono (by omega)) rfl m__law_draws k__law_draws b__law_draws .nil pass0 (pa_cons (pv 0) (pa_cons (pv 1) (pa_cons pe_int pa_nil)))))
    (pss_cons (ps_set (i := 5) sc__law_model.nd rfl (Or.inr rfl) (pe_op op_add pe_int (pe_call G__law_take (hr.mono (by omega)) rfl m__law_take k__law_take b__law_take .nil pass0 (pa_cons (pv 4) (pa_cons (pv 3) pa_nil)))))
    (pss_cons (ps_set (i := 6) sc__law_model.nd rfl (Or.inl rfl) (pe_lst pa_nil))
    (pss_cons (ps_set (i := 7) sc__law_model.nd rfl (Or.inl rfl) (pe_lst pa_nil))
    (pss_cons (ps_for PassesOwn.never rfl (pi_range1 rfl T.mrange (pa_cons (pv 5) pa_nil)) (pg_name (i := 8) sc__law_model.nd rfl (Or.inl rfl)) (pss_cons (ps_set (i := 9) sc__law_model.nd rfl (Or.inr rfl) (pe_call G__law_draws (hr.mono (by omega)) rfl m__law_draws k__law_draws b__law_draws .nil pass0 (pa_cons (pv 0) (pa_cons (pe_op op_add (pe_op op_add (pv 1) pe_int) (pe_op op_mod (pv 8) pe_int)) (pa_cons pe_int pa_nil)))))
    (pss_cons (ps_set (i := 9) sc__law_model.nd rfl (Or.inr rfl) (pe_slice sl_list (pv 9) (po_some (pe_op op_mul (pe_op op_fdiv (pv 8) pe_int) pe_int)) po_none))
    (pss_one (ps_expr (pe_bm PySem.F.plainAttrs_list PySem.F.slot_list_append PySem.F.type_list_append mt_append (pv 6) (pa_cons (pe_callTy call_tuple_of rfl T.mtuple (by decide +kernel) (pa_cons (pe_lc (own := [("_law_name", 14)]) (g := gName 14) rfl sc__law_model.nd (pi_range1 rfl T.mrange (pa_cons (pe_ix (ix_k (K := K) rfl) (pv 2) pe_int (fun _ _ => rfl)) pa_nil)) (blkOk_by (own := [("_law_name", 14)]) (N := n__law_model) (sc := defScope s__law_model) (by decide +kernel)) (fun _ _ _ _ _ => pg_name (i := 14) sc__law_model.nd rfl (Or.inl rfl)) (fun _ _ _ _ _ => (pts_one (pt_cmpR op_eq (pe_call G__law_take (hr.mono (by omega)) rfl m__law_take k__law_take b__law_take .nil pass0 (pa_cons (pv 9) (pa_cons pe_int pa_nil))) pe_int (nomark _)))) (fun _ _ _ _ _ => (pv 14))) pa_nil)) pa_nil)))))))
    (pss_cons (ps_for PassesOwn.never rfl (pi_range1 rfl T.mrange (pa_cons (pe_ix (ix_k (K := K) rfl) (pv 2) pe_int (fun _ _ => rfl)) pa_nil)) (pg_name (i := 10) sc__law_model.nd rfl (Or.inl rfl)) (pss_one (ps_for PassesOwn.never rfl (pi_range1 rfl T.mrange (pa_cons (pv 5) pa_nil)) (pg_name (i := 11) sc__law_model.nd rfl (Or.inl rfl)) (pss_cons (ps_set (i := 9) sc__law_model.nd rfl (Or.inr rfl) (pe_call G__law_draws (hr.mono (by omega)) rfl m__law_draws k__law_draws b__law_draws .nil pass0 (pa_cons (pv 0) (pa_cons (pe_op op_add (pe_op op_add (pv 1) pe_int) (pe_op op_mod (pe_op op_add (pv 10) (pv 11)) pe_int)) (pa_cons pe_int pa_nil)))))
    (pss_cons (ps_set (i := 9) sc__law_model.nd rfl (Or.inr rfl) (pe_slice sl_list (pv 9) (po_some (pe_op op_mul (pe_op op_fdiv (pv 11) pe_int) pe_int)) po_none))
    (pss_one (ps_for PassesOwn.never rfl (pi_range1 rfl T.mrange (pa_cons (pv 5) pa_nil)) (pg_name (i := 12) sc__law_model.nd rfl (Or.inl rfl)) (pss_one (ps_if (pt_cmpR op_eq (pe_call G__law_take (hr.mono (by omega)) rfl m__law_take k__law_take b__law_take .nil pass0 (pa_cons (pv 9) (pa_cons pe_int pa_nil))) pe_int (nomark _)) (pss_one (ps_expr (pe_bm PySem.F.plainAttrs_list PySem.F.slot_list_append PySem.F.type_list_append mt_append (pv 7) (pa_cons (pe_tup (pa_cons (pv 10) (pa_cons (pv 11) (pa_cons (pv 12) pa_nil)))) pa_nil)))) pss_nil)))))))))
    (pss_cons (ps_set (i := 13) sc__law_model.nd rfl (Or.inl rfl) (pe_callTy call_tuple_of rfl T.mtuple (by decide +kernel) (pa_cons (pe_lc (own := [("_law_one", 15)]) (g := gName 15) (tt := tYes) rfl sc__law_model.nd (pi_range1 rfl T.mrange (pa_cons (pe_ix (ix_k (K := K) rfl) (pv 2) pe_int (fun _ _ => rfl)) pa_nil)) (blkOk_by (own := [("_law_one", 15)]) (N := n__law_model) (sc := defScope s__law_model) (by decide +kernel)) (fun _ _ _ _ _ => pg_name (i := 15) sc__law_model.nd rfl (Or.inl rfl)) (fun _ _ _ _ _ => pts_nil) (fun _ _ _ _ _ => (pe_call G__law_take (hr.mono (by omega)) rfl m__law_take k__law_take b__law_take .nil pass0 (pa_cons (pv 4) (pa_cons (pv 5) pa_nil))))) pa_nil)))
    (pss_one (ps_ret (pe_tup (pa_cons (pe_callTy call_tuple_of rfl T.mtuple (by decide +kernel) (pa_cons (pv 6) pa_nil)) (pa_cons (pe_callTy call_tuple_of rfl T.mtuple (by decide +kernel) (pa_cons (pv 7) pa_nil)) (pa_cons (pv 13) pa_nil))))))))))))), ?_⟩)
  rintro ⟨ns, first, g, most⟩ ds Z wh Q ⟨hm0, hm1, hc, hr', hi, rfl⟩ q
  replace hm0 : 0 < most := hm0
  replace hm1 : most ≤ 100 := hm1
  replace hc : g.nc ≤ 100 := hc
  replace hr' : g.nr ≤ 4 := hr'
  replace hi : g.ni ≤ 100 := hi
  refine nx_saN <| ea_cons <| ed_var rfl <| ea_cons <| ed_var rfl <| ea_cons <| ed_int <| ea_nil ⟨⟨ns, first, 40, by decide, rfl⟩, fun a4 z4 b4 => ?_⟩
  refine nx_sa <| ed_op <| ed_int <| ed_take rfl <| ed_var rfl ⟨most, rfl, hm0, fun r hr2 => od_add ⟨_, _, rfl, rfl, ?_⟩⟩
  have em : (1 : Int) + (r : Int) = ((1 + r : Nat) : Int) := by omega
  rw [em]
  generalize hn : 1 + r = n
  have hn0 : 0 < n := by omega
  have hn1 : n ≤ 100 := by omega
  refine nx_sml fun a6 z6 b6 => ?_
  refine nx_sml fun a7 z7 b7 => ?_
  have n76 : a7 ≠ a6 := fun z => z7 (by rw [z]; exact List.mem_cons_self)
  refine nx_sfor <| ei_range1 <| ea_cons <| ed_var rfl <| ea_nil ⟨n, rfl, by omega, fun i δi => ∃ ts : List (List Nat), ts.length = i ∧ δi = [.dat (.lst (ns.map Da.int)), .dat (.int (first : Int)), .dat (sizes g), .dat (.int (most : Int)), .il a4, .dat (.int (n : Int)), .ml a6 (ts.map fun t => .tup (t.map dN)), .ml a7 [], .no, .no, .no, .no, .no, .no, .no, .no], ⟨[], rfl, rfl⟩, fun i d δi w' ew hd hinv => ?_, fun δn hinv => ?_⟩
  · obtain ⟨rfl, hlt⟩ := upto_get hd
    obtain ⟨ts, hts, rfl⟩ := hinv
    refine nx_dlz fun hz => nx_saN <| ea_cons <| ed_var rfl <| ea_cons <| ed_op <| ed_op <| ed_var rfl <| ed_int <| od_add ⟨_, _, rfl, rfl, ?_⟩
    refine ed_op <| ed_var rfl <| ed_int <| od_mod ⟨_, _, rfl, rfl, by decide, od_add ⟨_, _, rfl, rfl, ea_cons <| ed_int <| ea_nil ⟨⟨ns, first + 1 + i % 3, 60, by decide, ?_⟩, fun b1 y1 c1 => ?_⟩⟩⟩
    · rw [show (first : Int) + 1 + (i : Int) % 3 = ((first + 1 + i % 3 : Nat) : Int) from by omega]
      rfl
    refine nx_dlz fun hz2 => nx_saSl (k := 9) (b := b1) rfl <| ed_op <| ed_op <| ed_var rfl <| ed_int <| od_fdiv ⟨_, _, rfl, rfl, ⟨by decide, by decide⟩, ?_⟩
    refine ed_int <| od_mul ⟨_, _, rfl, rfl, .inr ⟨by decide, by decide⟩, _, rfl, fun b2 y2 c2 => ?_⟩
    refine nx_app (a := a6) rfl b6 (by rw [List.length_map]; omega) ⟨n76, trivial⟩ ?_
    refine ed_cb <| ea_cons <| ed_lc <| ei_range1 <| ea_cons <| ed_op <| ed_var rfl <| ed_int <| od_ix ⟨_, rfl, ea_nil ⟨g.nc, rfl, by omega, fun i acc => ∃ t : List Nat, acc = t.map dN, by rw [upto_len]; omega, ⟨[], rfl⟩, fun i d acc a' w2 ew2 ha' hb' hd hinv => ?_, fun acc hinv => ?_⟩⟩
    · obtain ⟨rfl, hlt⟩ := upto_get hd
      obtain ⟨t, rfl⟩ := hinv
      refine eb_test <| ed_op <| ed_take (i := 9) (a := b2) rfl <| ed_int ⟨2, rfl, by decide, fun r2 h2 => ed_int <| od_eq ⟨_, rfl, _, rfl, fun _ => ?_, fun _ => ?_⟩⟩
      · exact ed_var rfl ⟨t ++ [i], dN_snoc t i⟩
      · exact ⟨t, rfl⟩
    · obtain ⟨t, rfl⟩ := hinv
      refine ea_nil <| cb_tuple ⟨_, .inl rfl, ?_⟩
      refine nx_le (δ' := [.dat (.lst (ns.map Da.int)), .dat (.int (first : Int)), .dat (sizes g), .dat (.int (most : Int)), .il a4, .dat (.int (n : Int)), .ml a6 ((ts.map fun (t : List Nat) => Da.tup (t.map dN)) ++ [Da.tup (t.map dN)]), .ml a7 [], .no, .no, .no, .no, .no, .no, .no, .no]) (.same <| .same <| .same <| .same <| .same <| .same <| .same <| .same <| .no <| .no <| .same <| .same <| .same <| .same <| .same <| .same .nil) ?_
      refine nx_undraw hz2 y2 c2 ⟨List.mem_cons_of_mem _ List.mem_cons_self, trivial⟩ ?_
      refine nx_undraw hz y1 c1 ⟨List.mem_cons_self, trivial⟩ ?_
      refine nx_turn (SLe.refl _) ⟨ts ++ [t], by rw [List.length_append, hts]; rfl, by rw [List.map_append]; rfl⟩
  obtain ⟨ts, hts, rfl⟩ := hinv
  rw [upto_len] at hts
  have link : ∀ (ls : List (Nat × Nat × Nat)) (x y z : Nat), ls.map dL ++ [.tup [.int (x : Int), .int (y : Int), .int (z : Int)]] = (ls ++ [(x, y, z)]).map dL := fun ls x y z => by rw [List.map_append]; rfl
  refine nx_sfor <| ei_range1 <| ea_cons <| ed_op <| ed_var rfl <| ed_int <| od_ix ⟨_, rfl, ea_nil ⟨g.nr, rfl, by omega, fun i δi => ∃ ls : List (Nat × Nat × Nat), ls.length ≤ 10000 * i ∧ δi = [.dat (.lst (ns.map Da.int)), .dat (.int (first : Int)), .dat (sizes g), .dat (.int (most : Int)), .il a4, .dat (.int (n : Int)), .ml a6 (ts.map fun t => .tup (t.map dN)), .ml a7 (ls.map dL), .no, .no, .no, .no, .no, .no, .no, .no], ⟨[], Nat.zero_le _, rfl⟩, fun r1 d δi w1 ew1 hd hinv => ?_, fun δn hinv => ?_⟩⟩
  · obtain ⟨rfl, hlt1⟩ := upto_get hd
    obtain ⟨ls, hls, rfl⟩ := hinv
    refine nx_for <| ei_range1 <| ea_cons <| ed_var rfl <| ea_nil ⟨n, rfl, by omega, fun i δi => ∃ ls : List (Nat × Nat × Nat), ls.length ≤ 10000 * r1 + 100 * i ∧ δi = [.dat (.lst (ns.map Da.int)), .dat (.int (first : Int)), .dat (sizes g), .dat (.int (most : Int)), .il a4, .dat (.int (n : Int)), .ml a6 (ts.map fun t => .tup (t.map dN)), .ml a7 (ls.map dL), .no, .no, .dat (.int (r1 : Int)), .no, .no, .no, .no, .no], ⟨ls, by omega, rfl⟩, fun r2 d δi w2 ew2 hd hinv => ?_, fun δn hinv => ?_⟩
    · obtain ⟨rfl, hlt2⟩ := upto_get hd
      obtain ⟨ls, hls, rfl⟩ := hinv
      refine nx_dlz fun hz => nx_saN <| ea_cons <| ed_var rfl <| ea_cons <| ed_op <| ed_op <| ed_var rfl <| ed_int <| od_add ⟨_, _, rfl, rfl, ?_⟩
      refine ed_op <| ed_op <| ed_var rfl <| ed_var rfl <| od_add ⟨_, _, rfl, rfl, ed_int <| od_mod ⟨_, _, rfl, rfl, by decide, od_add ⟨_, _, rfl, rfl, ea_cons <| ed_int <| ea_nil ⟨⟨ns, first + 4 + (r1 + r2) % 3, 60, by decide, ?_⟩, fun b1 y1 c1 => ?_⟩⟩⟩⟩
      · rw [show (first : Int) + 4 + ((r1 : Int) + (r2 : Int)) % 3 = ((first + 4 + (r1 + r2) % 3 : Nat) : Int) from by omega]
        rfl
      refine nx_dlz fun hz2 => nx_saSl (k := 9) (b := b1) rfl <| ed_op <| ed_op <| ed_var rfl <| ed_int <| od_fdiv ⟨_, _, rfl, rfl, ⟨by decide, by decide⟩, ?_⟩
      refine ed_int <| od_mul ⟨_, _, rfl, rfl, .inr ⟨by decide, by decide⟩, _, rfl, fun b2 y2 c2 => ?_⟩
      refine nx_for <| ei_range1 <| ea_cons <| ed_var rfl <| ea_nil ⟨n, rfl, by omega, fun i δi => ∃ ls : List (Nat × Nat × Nat), ls.length ≤ 10000 * r1 + 100 * r2 + i ∧ δi = [.dat (.lst (ns.map Da.int)), .dat (.int (first : Int)), .dat (sizes g), .dat (.int (most : Int)), .il a4, .dat (.int (n : Int)), .ml a6 (ts.map fun t => .tup (t.map dN)), .ml a7 (ls.map dL), .no, .il b2, .dat (.int (r1 : Int)), .dat (.int (r2 : Int)), .no, .no, .no, .no], ⟨ls, by omega, rfl⟩, fun r3 d δi w3 ew3 hd hinv => ?_, fun δn hinv => ?_⟩
      · obtain ⟨rfl, hlt3⟩ := upto_get hd
        obtain ⟨ls, hls, rfl⟩ := hinv
        refine nx_i1 <| eb_test <| ed_op <| ed_take (i := 9) (a := b2) rfl <| ed_int ⟨3, rfl, by decide, fun r5 h5 => ed_int <| od_eq ⟨_, rfl, _, rfl, fun _ => ?_, fun _ => ?_⟩⟩
        · refine nx_app (a := a7) rfl b7 (by rw [List.length_map]; omega) ⟨Ne.symm n76, trivial⟩ ?_
          refine ed_tup <| ea_cons <| ed_var rfl <| ea_cons <| ed_var rfl <| ea_cons <| ed_var rfl <| ea_nil ⟨sm rfl, ?_⟩
          refine nx_turn (.same <| .same <| .same <| .same <| .same <| .same <| .same <| .same <| .same <| .same <| .same <| .same <| .no <| .same <| .same <| .same .nil) ⟨ls ++ [(r1, r2, r3)], ?_, by rw [← link]⟩
          rw [List.length_append, List.length_singleton]
          omega
        · exact nx_turn (.same <| .same <| .same <| .same <| .same <| .same <| .same <| .same <| .same <| .same <| .same <| .same <| .no <| .same <| .same <| .same .nil) ⟨ls, by omega, rfl⟩
      · obtain ⟨ls, hls, rfl⟩ := hinv
        rw [upto_len] at hls
        refine nx_le (δ' := [.dat (.lst (ns.map Da.int)), .dat (.int (first : Int)), .dat (sizes g), .dat (.int (most : Int)), .il a4, .dat (.int (n : Int)), .ml a6 (ts.map fun t => .tup (t.map dN)), .ml a7 (ls.map dL), .no, .no, .dat (.int (r1 : Int)), .no, .no, .no, .no, .no]) (.same <| .same <| .same <| .same <| .same <| .same <| .same <| .same <| .same <| .no <| .same <| .no <| .same <| .same <| .same <| .same .nil) ?_
        refine nx_undraw hz2 y2 c2 ⟨List.mem_cons_of_mem _ List.mem_cons_self, trivial⟩ ?_
        refine nx_undraw hz y1 c1 ⟨List.mem_cons_self, trivial⟩ ?_
        refine nx_turn (SLe.refl _) ⟨ls, by omega, rfl⟩
    · obtain ⟨ls, hls, rfl⟩ := hinv
      rw [upto_len] at hls
      exact nx_turn (.same <| .same <| .same <| .same <| .same <| .same <| .same <| .same <| .same <| .same <| .no <| .same <| .same <| .same <| .same <| .same .nil) ⟨ls, by omega, rfl⟩
  obtain ⟨ls, hls, rfl⟩ := hinv
  refine nx_sa <| ed_cb <| ea_cons <| ed_lc <| ei_range1 <| ea_cons <| ed_op <| ed_var rfl <| ed_int <| od_ix ⟨_, rfl, ea_nil ⟨g.ni, rfl, by omega, fun i acc => ∃ t : List Nat, t.length = i ∧ (∀ x ∈ t, x < n) ∧ acc = t.map dN, by rw [upto_len]; omega, ⟨[], rfl, (fun x hx => by cases hx), rfl⟩, fun i d acc a' w2 ew2 ha' hb' hd hinv => ?_, fun acc hinv => ?_⟩⟩
  · obtain ⟨rfl, hlt⟩ := upto_get hd
    obtain ⟨t, htl, htn, rfl⟩ := hinv
    refine eb_yes ⟨fun _ => ed_take (i := 4) (a := a4) rfl <| ed_var rfl ⟨n, rfl, hn0, fun r2 h2 => ⟨t ++ [r2], by rw [List.length_append, htl]; rfl, fun x hx => ?_, dN_snoc t r2⟩⟩, fun e => by cases e⟩
    rcases List.mem_append.mp hx with h | h
    · exact htn x h
    · rw [List.mem_singleton.mp h]; exact h2
  · obtain ⟨t, htl, htn, rfl⟩ := hinv
    rw [upto_len] at htl
    refine ea_nil <| cb_tuple ⟨_, .inl rfl, ?_⟩
    refine nx_ret (R := postMo ⟨ns, first, g, most⟩) ?_ <| ed_tup <| ea_cons <| ed_tupleM (i := 6) (a := a6) rfl <| ea_cons <| ed_tupleM (i := 7) (a := a7) rfl <| ea_cons <| ed_var rfl <| ea_nil ⟨sm rfl, ⟨ts, ls, t⟩, ⟨?_, ?_⟩, rfl⟩
    · exact ((q.draw b4).hide).hide
    · show ts.length ≤ 100
      omega
    · intro a ha
      have hl : a < t.length := by rw [htl]; exact ha
      refine ⟨t[a], List.getElem?_eq_getElem hl, ?_⟩
      show t[a] < ts.length
      rw [hts]
      exact htn _ (List.getElem_mem hl)
end
end Kw

/-! the law -/
namespace Kw
open PySem PySem.Spec PyProof.Rows L2 Evl
section
variable {K : PySem.W.Frag} {c : Cn} {δ : List SD} {Hb : Hp} {t1 t2 : TA} {P : Da → Prop}
/-- a call whose first argument is a new list of ints, that it draws from -/
theorem ed_callGN {α : Type} {PreN : List Da → Prop} {Pre : α → List Da → Prop} {Post : α → Da → Prop} {E E' : XK} (h1 : Ea K c δ Hb t1 PreN) (h : ∀ a, a ∉ c.Z → Hb a = none → Ea K (c.draw a) δ Hb t2 fun ds => ∃ p, Pre p ds ∧ ∀ d, Post p d → P d) :
    Ed K c δ Hb (tCall (spG K Pre Post) [] E (tCons (tCall (spN K PreN) [] E' t1) t2)) P := fun σ H r ok s Q q =>
  h1 σ H r ok s _ fun vs ds H1 r1 ok1 p dvs => ⟨c.Z, ds, ok1.live, by rw [List.append_nil]; exact dvs, p, fun a H2 e hn hil => by
    have nz : a ∉ c.Z := ok1.fresh hn
    have rr : Rl c.dl H1 H2 := .of_ex e
    have ok2 : Ok c H2 := ok1.mono rr
    have bn : Hb a = none := (r.trans r1).back ok1 hn
    have h0 : H a = none := r1.back ok1 hn
    have x2 : Ex (hd c.Z H1) (hd (a :: c.Z) H2) := fun b o q => by
      have nb : b ≠ a := fun z => by
        have := hd_ex _ _ b o q
        rw [z, hn] at this
        cases this
      unfold hd at q ⊢
      split at q
      · cases q
      · rename_i m
        rw [if_neg (fun z => by rcases List.mem_cons.mp z with y | y; exact nb y; exact m y)]
        exact e b o q
    have ok3 : Ok (c.draw a) H2 := by
      refine ⟨fun z hz => ?_, fun d hdl => ?_, ok1.kn.trans x2⟩
      · rcases List.mem_cons.mp hz with y | y
        · obtain ⟨ns, q⟩ := hil
          exact ⟨_, by rw [y]; exact q⟩
        · exact ok2.live z y
      · rcases List.mem_cons.mp hdl with y | y
        · rw [y]
          exact ⟨List.mem_cons_self, hil⟩
        · exact ⟨List.mem_cons_of_mem _ (ok2.dlz d y).1, (ok2.dlz d y).2⟩
    have st : Stp K c H1 (c.draw a) H2 := ⟨x2, fun z hz => List.mem_cons_of_mem _ hz, fun z hz => List.mem_cons_of_mem _ hz, fun b hb n => by
      obtain ⟨o, q⟩ := ok1.live b hb
      have nb : b ≠ a := ne_of_none q hn
      exact ⟨fun m => by rcases List.mem_cons.mp m with y | y; exact nb y; exact n y, by rw [q, e b o q]⟩⟩
    have rb : Rl (a :: c.dl) Hb H2 := by
      have r0 := (r.trans r1).trans rr
      refine ⟨fun b o n q => r0.keep b o (fun m => n (List.mem_cons_of_mem _ m)) q, fun d m q => ?_⟩
      rcases List.mem_cons.mp m with y | y
      · rw [y]; exact hil
      · exact r0.drw d y q
    refine h a nz bn σ H2 rb ok3 ((s.mono r1 ok).step st) _ fun vs2 ds2 H3 r3 ok3' ⟨pp, p2, hP⟩ dvs2 => ?_
    refine ⟨pp, a :: c.Z, a, vs2, ds2, by rw [List.append_nil], List.mem_cons_self, ok3'.live, (ok3'.dlz a List.mem_cons_self).2, dvs2, p2, fun v d H4 e4 hd' dv => ?_⟩
    have r4 : Rl (a :: c.dl) H2 H4 := r3.trans (e4.one List.mem_cons_self)
    have ok4 : Ok (c.draw a) H4 := ok3.mono r4
    refine q v d H4 ⟨fun b o n z => ?_, fun b m z => ?_⟩ ⟨fun z m => ok4.live z (List.mem_cons_of_mem _ m), fun b m => ⟨(ok1.dlz b m).1, (ok4.dlz b (List.mem_cons_of_mem _ m)).2⟩, ok4.kn.trans (hd_sub fun z m => List.mem_cons_of_mem _ m)⟩ (hP d hd') (dv.to (hd_sub fun z m => List.mem_cons_of_mem _ m))
    · refine r4.keep b o (fun m => ?_) (e b o (r1.keep b o n z))
      rcases List.mem_cons.mp m with y | y
      · rw [y, h0] at z
        cases z
      · exact n y
    · exact r4.drw b (List.mem_cons_of_mem _ m) (rr.drw b m (r1.drw b m z))⟩
end
section
variable {PR : Program} {w : World} {K : PySem.W.Frag} {mg : Str → Option Value} {base : Heap} {aA : Addr}
theorem coreQ_fit (g : Gp) : ∀ q : WQ, q.wf g → q.depth ≤ 2 → coreQ q = .never ∨ (coreQ q).fit 10 g.ni
  | .never, _, _ => .inl rfl
  | .below c d, _, h => by
    have h' : max c.depth d.depth ≤ 2 := h
    have h1 := core_depth c
    have h2 := core_depth d
    refine .inr ⟨?_, trivial⟩
    show max (core c).depth (core d).depth < 10
    omega
  | .is a c, wf, h => by
    have h' : c.depth ≤ 2 := h
    have h1 := core_depth c
    refine .inr ⟨?_, wf.1⟩
    show (core c).depth < 10
    omega
  | .has a n b, wf, _ => .inr ⟨by show 0 < 10; decide, wf.1, wf.2.2⟩
theorem coreS_fit (g : Gp) : ∀ s : WS, s.wf g → s.depth ≤ 2 → s ≠ .qu .never → ∀ q ∈ coreS s, q.fit 10 g.ni
  | .equals c d, _, h, _ => by
    have h' : max c.depth d.depth ≤ 2 := h
    have h1 := core_depth c
    have h2 := core_depth d
    intro q hq
    rcases List.mem_cons.mp hq with rfl | hq
    · refine ⟨?_, trivial⟩
      show max (core c).depth (core d).depth < 10
      omega
    · rw [List.mem_singleton.mp hq]
      refine ⟨?_, trivial⟩
      show max (core d).depth (core c).depth < 10
      omega
  | .apart c d, _, h, _ => by
    have h' : max c.depth d.depth ≤ 2 := h
    have h1 := core_depth c
    have h2 := core_depth d
    intro q hq
    rw [List.mem_singleton.mp hq]
    refine ⟨?_, trivial⟩
    show max (max (core c).depth (core d).depth + 1) (0 + 1) < 10
    omega
  | .domain r c, _, h, _ => by
    have h' : c.depth ≤ 2 := h
    have h1 := core_depth c
    intro q hq
    rw [List.mem_singleton.mp hq]
    refine ⟨?_, trivial⟩
    show max (0 + 1) (core c).depth < 10
    omega
  | .range r c, _, h, _ => by
    have h' : c.depth ≤ 2 := h
    have h1 := core_depth c
    intro q hq
    rw [List.mem_singleton.mp hq]
    refine ⟨?_, trivial⟩
    show max (0 + 1) (core c).depth < 10
    omega
  | .under r s, _, _, _ => by
    intro q hq
    rw [List.mem_singleton.mp hq]
    exact ⟨by show 0 < 10; decide, trivial⟩
  | .inverse r s, _, _, _ => by
    intro q hq
    rcases List.mem_cons.mp hq with rfl | hq
    · exact ⟨by show 0 < 10; decide, trivial⟩
    · rw [List.mem_singleton.mp hq]
      exact ⟨by show 0 < 10; decide, trivial⟩
  | .qu q, wf, h, hn => by
    intro q' hq
    rw [List.mem_singleton.mp hq]
    rcases coreQ_fit g q wf h with e | e
    · cases q with
      | never => exact absurd rfl hn
      | below _ _ => cases e
      | is _ _ => cases e
      | has _ _ _ => cases e
    · exact e
theorem wq_ind (g : Gp) : ∀ q : WQ, q.wf g → q.ind g.ni
  | .never, _ => trivial
  | .below _ _, _ => trivial
  | .is _ _, h => h.1
  | .has _ _ _, h => ⟨h.1, h.2.2⟩
theorem ws_ind (g : Gp) : ∀ s : WS, s.wf g → s.ind g.ni
  | .equals _ _, _ => trivial
  | .apart _ _, _ => trivial
  | .domain _ _, _ => trivial
  | .range _ _, _ => trivial
  | .under _ _, _ => trivial
  | .inverse _ _, _ => trivial
  | .qu q, h => wq_ind g q h
/-! ### law -/
def preLw (ns : List Int) (ds : List Da) : Prop := ds = [.lst (ns.map Da.int)]
def postLw (_ : List Int) (d : Da) : Prop := d = .bl true
theorem okPF {α : Type} {x : Str} {st : Stmt} {N ps : List Str} {k : Nat} {Pre : α → List Da → Prop} {Post : α → Da → Prop} {f : Addr} {fd : FuncData} (F : Fun K x x st f fd) (S : FnScope N ps (defScope st)) (hl : ∀ p ds, Pre p ds → ds.length = ps.length)
    (h : ∀ (f : Addr) (cdv : Value) (A : Around) (outer : List Env) (s : Shared) (H : Hp) (E : XK), Room k (A.deeper (envOfC x (defScope st) s.heap.objs.size f cdv)) →
      ∃ t, PSs (cxOf CX0 PR w K mg base N x (defScope st) f cdv A outer s H E).nox (defBody st) t ∧
        ∀ (p : α) (ds : List Da) (Z : List Addr) (wh : Hp) (Q : VK), Pre p ds → RtOk K ⟨Z, [], wh⟩ H (Post p) Q → Nx K ⟨Z, [], wh⟩ (ds.map SD.dat ++ List.replicate (N.length - ds.length) .no) H (t { nx := fun _ H' => Q .non H', rt := Q })) :
    FnOk PR w K mg base CX0 (k + 1) f fd ps (spP K Pre Post) := by
  refine F.ok S (fun vs H Q E hh => ?_) (fun cdv A outer s H vs Q E hr hh => ?_)
  · obtain ⟨pp, Z, ds, _, dv, p, _⟩ := hh
    rw [dv.len, hl pp ds p]
  · obtain ⟨pp, Z, ds, lv, dv, p, q⟩ := hh
    obtain ⟨t, ht, hv⟩ := h f cdv A outer s H E hr
    refine ⟨t, ht, hv pp ds Z (fun _ => none) Q p (fun v d H' r hp dq => q v d H' (fun a o e => r.keep a o (by simp) e) hp dq) _ H (Rl.refl _ _) ⟨lv, fun d m => by simp at m, fun a o e => by cases e⟩ (Sl.init dv)⟩
theorem ok_law (T : Txt K mg aA) {fl : Addr} {fdl : FuncData} (F : Fun K "law" "law" s_law fl fdl) : FnOk PR w K mg base CX0 60 fl fdl ["_law_script"] (spP K preLw postLw) := by
  obtain ⟨f1, fd1, G__law_draws, m__law_draws, k__law_draws, b__law_draws⟩ := cl__law_draws (PR := PR) (w := w) (base := base) T
  obtain ⟨f2, fd2, G__law_names, m__law_names, k__law_names, b__law_names⟩ := cl__law_names (PR := PR) (w := w) (base := base) T
  obtain ⟨f3, fd3, G__law_sizes, m__law_sizes, k__law_sizes, b__law_sizes⟩ := cl__law_sizes (PR := PR) (w := w) (base := base) T
  obtain ⟨f4, fd4, G__law_told_names, m__law_told_names, k__law_told_names, b__law_told_names⟩ := cl__law_told_names (PR := PR) (w := w) (base := base) T
  obtain ⟨f5, fd5, G__law_model, m__law_model, k__law_model, b__law_model⟩ := cl__law_model (PR := PR) (w := w) (base := base) T
  obtain ⟨f6, fd6, G__law_concept, m__law_concept, k__law_concept, b__law_concept⟩ := cl__law_concept (PR := PR) (w := w) (base := base) T 4
  obtain ⟨f7, fd7, G__law_take, m__law_take, k__law_take, b__law_take⟩ := cl__law_take (PR := PR) (w := w) (base := base) T
  obtain ⟨f8, fd8, G__law_belongs, m__law_belongs, k__law_belongs, b__law_belongs⟩ := cl__law_belongs (PR := PR) (w := w) (base := base) T 4
  obtain ⟨f9, fd9, G__law_same, m__law_same, k__law_same, b__law_same⟩ := cl__law_same (PR := PR) (w := w) (base := base) T 2
  obtain ⟨f10, fd10, G_members, m_members, k_members, b_members⟩ := cl_members (PR := PR) (w := w) (base := base) T 11
  obtain ⟨f11, fd11, G_core_concept, m_core_concept, k_core_concept, b_core_concept⟩ := cl_core_concept (PR := PR) (w := w) (base := base) T 4
  obtain ⟨f12, fd12, G__law_statement, m__law_statement, k__law_statement, b__law_statement⟩ := cl__law_statement (PR := PR) (w := w) (base := base) T 3
  obtain ⟨f13, fd13, G_breaks, m_breaks, k_breaks, b_breaks⟩ := cl_breaks (PR := PR) (w := w) (base := base) T 10
  obtain ⟨f14, fd14, G_parts, m_parts, k_parts, b_parts⟩ := cl_parts (PR := PR) (w := w) (base := base) T 3
  obtain ⟨f15, fd15, G__law_true, m__law_true, k__law_true, b__law_true⟩ := cl__law_true (PR := PR) (w := w) (base := base) T 3
  obtain ⟨f16, fd16, G__law_question, m__law_question, k__law_question, b__law_question⟩ := cl__law_question (PR := PR) (w := w) (base := base) T 3
  obtain ⟨f17, fd17, G_answers, m_answers, k_answers, b_answers⟩ := cl_answers (PR := PR) (w := w) (base := base) T 10
  obtain ⟨f18, fd18, G_core_question, m_core_question, k_core_question, b_core_question⟩ := cl_core_question (PR := PR) (w := w) (base := base) T 3
  refine okPF F sc_law (fun p ds h => by rw [h]; rfl) (fun f cdv A outer s H E hr => ⟨_, (pss_cons (ps_set (i := 1) sc_law.nd rfl (Or.inl rfl) (pe_call G__law_draws (hr.mono (by omega)) rfl m__law_draws k__law_draws b__law_draws .nil pass0 (pa_cons (pv 0) (pa_cons pe_int (pa_cons pe_int pa_nil)))))
    (pss_cons (ps_set (i := 2) sc_law.nd rfl (Or.inl rfl) (pe_call G__law_names (hr.mono (by omega)) rfl m__law_names k__law_names b__law_names .nil pass0 (pa_cons (pv 1) pa_nil)))
    (pss_cons (ps_set (i := 3) sc_law.nd rfl (Or.inl rfl) (pe_call G__law_sizes (hr.mono (by omega)) rfl m__law_sizes k__law_sizes b__law_sizes .nil pass0 (pa_cons (pv 1) pa_nil)))
    (pss_cons (ps_set (i := 4) sc_law.nd rfl (Or.inl rfl) (pe_call G__law_told_names (hr.mono (by omega)) rfl m__law_told_names k__law_told_names b__law_told_names .nil pass0 (pa_cons (pv 2) (pa_cons (pv 3) pa_nil))))
    (pss_cons (ps_set (i := 5) sc_law.nd rfl (Or.inl rfl) (pe_call G__law_model (hr.mono (by omega)) rfl m__law_model k__law_model b__law_model .nil pass0 (pa_cons (pv 0) (pa_cons pe_int (pa_cons (pv 3) (pa_cons pe_int pa_nil))))))
    (pss_cons (ps_set (i := 6) sc_law.nd rfl (Or.inl rfl) (pe_call G__law_concept (hr.mono (by omega)) rfl m__law_concept k__law_concept b__law_concept .nil pass0 (pa_cons (pv 1) (pa_cons (pv 2) (pa_cons (pv 3) (pa_cons (pe_call G__law_take (hr.mono (by omega)) rfl m__law_take k__law_take b__law_take .nil pass0 (pa_cons (pv 1) (pa_cons pe_int pa_nil))) pa_nil))))))
    (pss_cons (ps_set (i := 7) sc_law.nd rfl (Or.inr rfl) (pe_call G__law_belongs (hr.mono (by omega)) rfl m__law_belongs k__law_belongs b__law_belongs .nil pass0 (pa_cons (pv 5) (pa_cons (pv 2) (pa_cons (pv 6) pa_nil)))))
    (pss_cons (ps_set (i := 8) sc_law.nd rfl (Or.inl rfl) (pe_callTy call_tuple_of rfl T.mtuple (by decide +kernel) (pa_cons (pe_lc (own := [("_law_thing", 12)]) (g := gName 12) rfl sc_law.nd (pi_range1 rfl T.mrange (pa_cons (pe_callB call_len_seq rfl T.mlen PySem.boot_len (pa_cons (pv 7) pa_nil)) pa_nil)) (blkOk_by (own := [("_law_thing", 12)]) (N := n_law) (sc := defScope s_law) (by decide +kernel)) (fun _ _ _ _ _ => pg_name (i := 12) sc_law.nd rfl (Or.inl rfl)) (fun _ _ _ _ _ => (pts_one (pt_val (pe_ix (ix_k (K := K) rfl) (pv 7) (pv 12) (fun _ _ => rfl))))) (fun _ _ _ _ _ => (pv 12))) pa_nil)))
    (pss_cons (ps_if (pt_not (pt_val (pe_call G__law_same (hr.mono (by omega)) rfl m__law_same k__law_same b__law_same .nil pass0 (pa_cons (pe_call G_members (hr.mono (by omega)) rfl m_members k_members b_members .nil pass0 (pa_cons (pv 5) (pa_cons (pe_call G_core_concept (hr.mono (by omega)) rfl m_core_concept k_core_concept b_core_concept .nil pass0 (pa_cons (pv 4) (pa_cons (pv 6) pa_nil))) pa_nil))) (pa_cons (pv 8) pa_nil))))) (pss_one (ps_ret pe_bl)) pss_nil)
    (pss_cons (ps_set (i := 9) sc_law.nd rfl (Or.inl rfl) (pe_call G__law_statement (hr.mono (by omega)) rfl m__law_statement k__law_statement b__law_statement .nil pass0 (pa_cons (pe_call G__law_draws (hr.mono (by omega)) rfl m__law_draws k__law_draws b__law_draws .nil pass0 (pa_cons (pv 0) (pa_cons pe_int (pa_cons pe_int pa_nil)))) (pa_cons (pv 2) (pa_cons (pv 3) (pa_cons pe_int pa_nil))))))
    (pss_cons (ps_set (i := 10) sc_law.nd rfl (Or.inl rfl) (pe_call G_breaks (hr.mono (by omega)) rfl m_breaks k_breaks b_breaks .nil pass0 (pa_cons (pv 5) (pa_cons (pe_tup (pa_cons (pe_tup (pa_cons (pe_call G_parts (hr.mono (by omega)) rfl m_parts k_parts b_parts .nil pass0 (pa_cons (pv 4) (pa_cons (pv 9) pa_nil))) pa_nil)) (pa_cons (pe_ix (ix_k (K := K) rfl) (pv 3) pe_int (fun _ _ => rfl)) pa_nil))) (pa_cons (pe_tup (pa_cons pe_int pa_nil)) pa_nil)))))
    (pss_cons (ps_if (PW.pt (pw_or (pt_not (pt_val (pe_callB call_isi rfl T.misi (by decide +kernel) (pa_cons (pv 10) (pa_cons (pe_bltn (v := .ty "tuple") rfl T.mtuple (by decide +kernel) rfl) pa_nil))))) (pw_or1 (pt_cmpR op_ne (pe_cmpR op_eq (pe_callB call_len_seq rfl T.mlen PySem.boot_len (pa_cons (pv 10) pa_nil)) pe_int (nomark _)) (pe_call G__law_true (hr.mono (by omega)) rfl m__law_true k__law_true b__law_true .nil pass0 (pa_cons (pv 5) (pa_cons (pv 2) (pa_cons (pv 9) pa_nil)))) (nomark _))))) (pss_one (ps_ret pe_bl)) pss_nil)
    (pss_cons (ps_set (i := 11) sc_law.nd rfl (Or.inl rfl) (pe_call G__law_question (hr.mono (by omega)) rfl m__law_question k__law_question b__law_question .nil pass0 (pa_cons (pe_call G__law_draws (hr.mono (by omega)) rfl m__law_draws k__law_draws b__law_draws .nil pass0 (pa_cons (pv 0) (pa_cons pe_int (pa_cons pe_int pa_nil)))) (pa_cons (pv 2) (pa_cons (pv 3) (pa_cons pe_int pa_nil))))))
    (pss_cons (ps_set (i := 10) sc_law.nd rfl (Or.inl rfl) (pe_call G_answers (hr.mono (by omega)) rfl m_answers k_answers b_answers .nil pass0 (pa_cons (pv 5) (pa_cons (pe_call G_core_question (hr.mono (by omega)) rfl m_core_question k_core_question b_core_question .nil pass0 (pa_cons (pv 4) (pa_cons (pv 11) pa_nil))) pa_nil))))
    (pss_one (ps_ret (pe_and (pe_callB call_isi rfl T.misi (by decide +kernel) (pa_cons (pv 10) (pa_cons (pe_bltn (v := .ty "bool") rfl T.mbool (by decide +kernel) rfl) pa_nil))) (pe_one (pe_cmpR op_eq (pv 10) (pe_call G__law_true (hr.mono (by omega)) rfl m__law_true k__law_true b__law_true .nil pass0 (pa_cons (pv 5) (pa_cons (pv 2) (pa_cons (pv 11) pa_nil)))) (nomark _)))))))))))))))))))), ?_⟩)
  rintro ns ds Z wh Q rfl q
  refine nx_saN <| ea_cons <| ed_var rfl <| ea_cons <| ed_int <| ea_cons <| ed_int <| ea_nil ⟨⟨ns, 0, 60, by decide, rfl⟩, fun a1 z1 b1 => ?_⟩
  refine nx_sa <| ed_callG rfl <| ea_nil ⟨(), rfl, fun d ⟨N, n1, n2, n3, l1, l2, l3, e⟩ => ?_⟩
  subst e
  refine nx_sa <| ed_callG rfl <| ea_nil ⟨(), rfl, fun d ⟨nc, nr, ni, h1, h2, h3, h4, e⟩ => ?_⟩
  subst e
  obtain ⟨g, hg⟩ : ∃ g : Gp, g = ⟨N, nc, nr, ni⟩ := ⟨_, rfl⟩
  have ok : g.ok := by
    subst hg
    exact ⟨n1, n2, n3, by show nc ≤ N.cs.length; omega, by show nr ≤ N.rs.length; omega, by show ni ≤ N.is.length; omega, h1⟩
  have gc : g.nc ≤ 4 := by subst hg; exact h2
  have gr : g.nr ≤ 2 := by subst hg; exact h3
  have gi : g.ni ≤ 2 := by subst hg; exact h4
  rw [show names N = names g.N from by subst hg; rfl, show Da.tup [.int (nc : Int), .int (nr : Int), .int (ni : Int)] = sizes g from by subst hg; rfl]
  clear hg
  refine nx_sa <| ed_call <| ea_cons <| ed_var rfl <| ea_cons <| ed_var rfl <| ea_nil ⟨g, ⟨ok, rfl⟩, fun d hd => ?_⟩
  cases hd
  refine nx_sa <| ed_call <| ea_cons <| ed_var rfl <| ea_cons <| ed_int <| ea_cons <| ed_var rfl <| ea_cons <| ed_int <| ea_nil ⟨⟨ns, 1, g, 6⟩, ⟨by show 0 < 6; decide, by show 6 ≤ 100; decide, by show g.nc ≤ 100; omega, by show g.nr ≤ 4; omega, by show g.ni ≤ 100; omega, rfl⟩, fun d ⟨M, mok, e⟩ => ?_⟩
  subst e
  replace mok : M.ok g.ni := mok
  have fw : M.n ≤ 100000 := Nat.le_trans mok.few (by decide)
  refine nx_sa <| ed_callG rfl <| ea_cons <| ed_var rfl <| ea_cons <| ed_var rfl <| ea_cons <| ed_take rfl <| ed_int ⟨4, rfl, by decide, fun r hr4 => ea_nil ⟨(g, r), ⟨ok, hr4, rfl⟩, fun d ⟨c, cwf, cd, e⟩ => ?_⟩⟩
  subst e
  replace cd : c.depth ≤ r := cd
  have cd4 : c.depth < 4 := by omega
  refine nx_sa <| ed_call <| ea_cons <| ed_var rfl <| ea_cons <| ed_var rfl <| ea_cons <| ed_var rfl <| ea_nil ⟨((M, g), c), ⟨mok.few, ok, cwf, cd4, rfl⟩, fun d hd => ?_⟩
  cases hd
  have rl : (List.range M.n).length ≤ 50000 := by rw [List.length_range]; exact Nat.le_trans mok.few (by decide)
  refine nx_sa <| ed_cb <| ea_cons <| ed_lcF (List.range M.n) dN (satW M c) dN rl (ei_range1 <| ea_cons <| ed_cb <| ea_cons <| ed_var rfl <| ea_nil <| cb_len ⟨_, .inl rfl, ea_nil ⟨M.n, ?_, fw, rfl⟩⟩) (fun x hx a w ew ha hb => eb_test <| ed_op <| ed_var rfl <| ed_var rfl <| od_ix ⟨_, row_get (List.mem_range.mp hx), _, rfl, rfl, fun _ => ed_var rfl rfl⟩) ?_
  · rw [List.length_map, List.length_range]
  refine ea_nil <| cb_tuple ⟨_, .inl rfl, ?_⟩
  refine nx_si <| eb_not <| eb_test <| ed_call <| ea_cons <| ed_call <| ea_cons <| ed_var rfl <| ea_cons <| ed_call <| ea_cons <| ed_var rfl <| ea_cons <| ed_var rfl <| ea_nil ⟨(g, c), ⟨ok, cwf, cd4, rfl⟩, fun d hd => ?_⟩
  cases hd
  refine ea_nil ⟨(M, core c), ⟨mok.few, ?_, rfl⟩, fun d hd => ?_⟩
  · have := core_depth c
    show (core c).depth < 11
    omega
  replace hd : d = .tup ((mem M (core c)).map dN) := hd
  rw [mem_core] at hd
  subst hd
  refine ea_cons <| ed_var rfl <| ea_nil ⟨(0, (List.range M.n).filter (satW M c)), ⟨Nat.le_trans (List.length_filter_le _ _) rl, .inr ⟨by decide, rfl⟩⟩, fun d hd => ?_⟩
  cases hd
  refine ⟨true, rfl, (fun h => by cases h), fun _ => ?_⟩
  refine nx_sa <| ed_callGN (ea_cons <| ed_var rfl <| ea_cons <| ed_int <| ea_cons <| ed_int <| ea_nil ⟨ns, 10, 60, by decide, rfl⟩) fun a2 z2 b2 => ea_cons <| ed_var rfl <| ea_cons <| ed_var rfl <| ea_cons <| ed_int <| ea_nil ⟨(g, 2), ⟨ok, by show 2 < 3; decide, rfl⟩, fun d ⟨st, swf, sd, sne, e⟩ => ?_⟩
  subst e
  replace sd : st.depth ≤ 2 := sd
  replace swf : st.wf g := swf
  have sd3 : st.depth < 3 := by omega
  refine nx_sa <| ed_call <| ea_cons <| ed_var rfl <| ea_cons <| ed_tup <| ea_cons <| ed_tup <| ea_cons <| ed_call <| ea_cons <| ed_var rfl <| ea_cons <| ed_var rfl <| ea_nil ⟨(g, st), ⟨ok, swf, sd3, rfl⟩, fun d hd => ?_⟩
  cases hd
  refine ea_nil ⟨sm rfl, ea_cons <| ed_op <| ed_var rfl <| ed_int <| od_ix ⟨_, rfl, ea_nil ⟨sm rfl, ?_⟩⟩⟩
  refine ea_cons <| ed_tup <| ea_cons <| ed_int <| ea_nil ⟨sm rfl, ea_nil ⟨((M, g.ni), coreS st), ⟨mok, coreS_fit g st swf sd sne, _, rfl⟩, fun d ⟨xs, e, hx⟩ => ?_⟩⟩
  subst e
  replace hx : (xs.length == 0) = (coreS st).all (holdsQ M) := hx
  rw [stmt M mok st (ws_ind g st swf)] at hx
  refine nx_si <| eb_or <| eb_not <| eb_test <| ed_isi <| ed_var rfl ⟨_, true, rfl, by decide +kernel, _, rfl, (fun h => by cases h), fun _ => ?_⟩
  refine eb_test <| ed_op <| ed_op <| ed_cb <| ea_cons <| ed_var rfl <| ea_nil <| cb_len ⟨_, .inr rfl, ed_int <| od_eq ⟨_, rfl, ?_⟩⟩
  refine ed_call <| ea_cons <| ed_var rfl <| ea_cons <| ed_var rfl <| ea_cons <| ed_var rfl <| ea_nil ⟨((M, g), st), ⟨mok, ok, swf, sd3, rfl⟩, fun d hd => ?_⟩
  cases hd
  have ex : decide ((xs.length : Int) = 0) = trueS M st := by
    rw [← hx]
    cases xs with
    | nil => rfl
    | cons x xs =>
      rw [List.length_cons]
      have z : ((xs.length + 1 : Nat) : Int) ≠ 0 := by omega
      rw [decide_eq_false z]
      rfl
  refine od_ne ⟨_, rfl, _, rfl, fun h => ?_, fun _ => ?_⟩
  · exfalso
    replace h : (!decide (decide ((xs.length : Int) = 0) = trueS M st)) = true := h
    rw [decide_eq_true ex] at h
    cases h
  refine nx_sa <| ed_callGN (ea_cons <| ed_var rfl <| ea_cons <| ed_int <| ea_cons <| ed_int <| ea_nil ⟨ns, 11, 60, by decide, rfl⟩) fun a2 z2 b2 => ea_cons <| ed_var rfl <| ea_cons <| ed_var rfl <| ea_cons <| ed_int <| ea_nil ⟨(g, 2), ⟨ok, by show 2 < 3; decide, rfl⟩, fun d ⟨wq, qwf, qd, e⟩ => ?_⟩
  subst e
  replace qd : wq.depth ≤ 2 := qd
  replace qwf : wq.wf g := qwf
  have qd3 : wq.depth < 3 := by omega
  refine nx_sa <| ed_call <| ea_cons <| ed_var rfl <| ea_cons <| ed_call <| ea_cons <| ed_var rfl <| ea_cons <| ed_var rfl <| ea_nil ⟨(g, wq), ⟨ok, qwf, qd3, rfl⟩, fun d hd => ?_⟩
  cases hd
  refine ea_nil ⟨((M, g.ni), coreQ wq), ⟨mok, coreQ_fit g wq qwf qd, rfl⟩, fun d hd => ?_⟩
  cases hd
  refine nx_ret (q.draw b1) <| ed_and <| ed_isi <| ed_var rfl ⟨_, true, rfl, by decide +kernel, _, rfl, (fun _ => ?_), fun h => by cases h⟩
  refine ed_op <| ed_var rfl <| ed_call <| ea_cons <| ed_var rfl <| ea_cons <| ed_var rfl <| ea_cons <| ed_var rfl <| ea_nil ⟨((M, g), .qu wq), ⟨mok, ok, qwf, qd3, rfl⟩, fun d hd => ?_⟩
  cases hd
  refine od_eq ⟨_, rfl, ?_⟩
  show Da.bl (decide (holdsQ M (coreQ wq) = trueQ M wq)) = Da.bl true
  rw [decide_eq_true (quest M mok wq (wq_ind g wq qwf))]
end
end Kw

/-! the top's facts, the end -/
namespace Kw
open PySem PySem.Spec PyProof.Rows L2 Evl
theorem any_dq {K : PySem.W.Frag} {aA : Addr} {oA : Obj} {itA : Array Value} {nA : Nat} {u : Value} (l : K.lookup aA = some oA) (e1 : oA.cls = .type "tuple") (e2 : oA.data = .seq itA nA) (e3 : itA.toList = [u]) (e4 : absV u = some (.str "any")) (H : Hp) : Dq K H (.ref aA) (.tup [.str "any"]) := by
  have r : RelV (.str "any") u := by
    cases u <;> first | (cases e4; done) | skip
    all_goals
      cases e4
      exact ⟨_, rfl⟩
  have hs : itA.size = 1 := by
    rw [← Array.length_toList, e3]
    rfl
  exact .tup (.inr ⟨oA, itA, nA, l, e1, e2, by rw [hs]; decide, by rw [e3]; exact .cons r .nil⟩) (.cons (.str _) .nil)
theorem all_mk {PR : Program} {w : World} {K : PySem.W.Frag} {h : Heap} {mg : Str → Option Value} {fa aA : Addr} (X : K.In h) (G : h.Ns mainGlobals mg) (hfa : mg "law" = some (.ref fa))
    {f0 : Addr} {od0 an0 : Option Addr} {sl0 : Array (Option Value)} {oc0 kV0 dc0 pm0 cd0 ct0 : Value}
    {f1 : Addr} {od1 an1 : Option Addr} {sl1 : Array (Option Value)} {oc1 kV1 dc1 pm1 cd1 ct1 : Value}
    {f2 : Addr} {od2 an2 : Option Addr} {sl2 : Array (Option Value)} {oc2 kV2 dc2 pm2 cd2 ct2 : Value}
    {f3 : Addr} {od3 an3 : Option Addr} {sl3 : Array (Option Value)} {oc3 kV3 dc3 pm3 cd3 ct3 : Value}
    {f4 : Addr} {od4 an4 : Option Addr} {sl4 : Array (Option Value)} {oc4 kV4 dc4 pm4 cd4 ct4 : Value}
    {f5 : Addr} {od5 an5 : Option Addr} {sl5 : Array (Option Value)} {oc5 kV5 dc5 pm5 cd5 ct5 : Value}
    {f6 : Addr} {od6 an6 : Option Addr} {sl6 : Array (Option Value)} {oc6 kV6 dc6 pm6 cd6 ct6 : Value}
    {f7 : Addr} {od7 an7 : Option Addr} {sl7 : Array (Option Value)} {oc7 kV7 dc7 pm7 cd7 ct7 : Value}
    {f8 : Addr} {od8 an8 : Option Addr} {sl8 : Array (Option Value)} {oc8 kV8 dc8 pm8 cd8 ct8 : Value}
    {f9 : Addr} {od9 an9 : Option Addr} {sl9 : Array (Option Value)} {oc9 kV9 dc9 pm9 cd9 ct9 : Value}
    {f10 : Addr} {od10 an10 : Option Addr} {sl10 : Array (Option Value)} {oc10 kV10 dc10 pm10 cd10 ct10 : Value}
    {f11 : Addr} {od11 an11 : Option Addr} {sl11 : Array (Option Value)} {oc11 kV11 dc11 pm11 cd11 ct11 : Value}
    {f12 : Addr} {od12 an12 : Option Addr} {sl12 : Array (Option Value)} {oc12 kV12 dc12 pm12 cd12 ct12 : Value}
    {f13 : Addr} {od13 an13 : Option Addr} {sl13 : Array (Option Value)} {oc13 kV13 dc13 pm13 cd13 ct13 : Value}
    {f14 : Addr} {od14 an14 : Option Addr} {sl14 : Array (Option Value)} {oc14 kV14 dc14 pm14 cd14 ct14 : Value}
    {f15 : Addr} {od15 an15 : Option Addr} {sl15 : Array (Option Value)} {oc15 kV15 dc15 pm15 cd15 ct15 : Value}
    {f16 : Addr} {od16 an16 : Option Addr} {sl16 : Array (Option Value)} {oc16 kV16 dc16 pm16 cd16 ct16 : Value}
    {f17 : Addr} {od17 an17 : Option Addr} {sl17 : Array (Option Value)} {oc17 kV17 dc17 pm17 cd17 ct17 : Value}
    {f18 : Addr} {od18 an18 : Option Addr} {sl18 : Array (Option Value)} {oc18 kV18 dc18 pm18 cd18 ct18 : Value}
    {f19 : Addr} {od19 an19 : Option Addr} {sl19 : Array (Option Value)} {oc19 kV19 dc19 pm19 cd19 ct19 : Value}
    {f20 : Addr} {od20 an20 : Option Addr} {sl20 : Array (Option Value)} {oc20 kV20 dc20 pm20 cd20 ct20 : Value}
    {f21 : Addr} {od21 an21 : Option Addr} {sl21 : Array (Option Value)} {oc21 kV21 dc21 pm21 cd21 ct21 : Value}
    {f22 : Addr} {od22 an22 : Option Addr} {sl22 : Array (Option Value)} {oc22 kV22 dc22 pm22 cd22 ct22 : Value}
    {f23 : Addr} {od23 an23 : Option Addr} {sl23 : Array (Option Value)} {oc23 kV23 dc23 pm23 cd23 ct23 : Value}
    {f24 : Addr} {od24 an24 : Option Addr} {sl24 : Array (Option Value)} {oc24 kV24 dc24 pm24 cd24 ct24 : Value}
    {f25 : Addr} {od25 an25 : Option Addr} {sl25 : Array (Option Value)} {oc25 kV25 dc25 pm25 cd25 ct25 : Value}
    {f26 : Addr} {od26 an26 : Option Addr} {sl26 : Array (Option Value)} {oc26 kV26 dc26 pm26 cd26 ct26 : Value}
    {f27 : Addr} {od27 an27 : Option Addr} {sl27 : Array (Option Value)} {oc27 kV27 dc27 pm27 cd27 ct27 : Value}
    {oA : Obj} {itA : Array Value} {nA : Nat} {u : Value}
    (a0 : PySem.W.nsIn K mainGlobals "inverse_of" = some (some (.ref f0))) (l0 : K.lookup f0 = some ⟨oc0, od0, .func (PySem.W.fnOf "inverse_of" "inverse_of" (defArgs s_inverse_of) (defBody s_inverse_of) (defScope s_inverse_of) .none kV0 dc0 pm0 an0 cd0 ct0), sl0⟩) (c0 : PySem.W.codeIn K cd0 "inverse_of" = true) (k0 : PySem.W.keepIn K (.ref f0) = true)
    (a1 : PySem.W.nsIn K mainGlobals "core_role" = some (some (.ref f1))) (l1 : K.lookup f1 = some ⟨oc1, od1, .func (PySem.W.fnOf "core_role" "core_role" (defArgs s_core_role) (defBody s_core_role) (defScope s_core_role) .none kV1 dc1 pm1 an1 cd1 ct1), sl1⟩) (c1 : PySem.W.codeIn K cd1 "core_role" = true) (k1 : PySem.W.keepIn K (.ref f1) = true)
    (a2 : PySem.W.nsIn K mainGlobals "core_concept" = some (some (.ref f2))) (l2 : K.lookup f2 = some ⟨oc2, od2, .func (PySem.W.fnOf "core_concept" "core_concept" (defArgs s_core_concept) (defBody s_core_concept) (defScope s_core_concept) .none kV2 dc2 pm2 an2 cd2 ct2), sl2⟩) (c2 : PySem.W.codeIn K cd2 "core_concept" = true) (k2 : PySem.W.keepIn K (.ref f2) = true)
    (a3 : PySem.W.nsIn K mainGlobals "core_question" = some (some (.ref f3))) (l3 : K.lookup f3 = some ⟨oc3, od3, .func (PySem.W.fnOf "core_question" "core_question" (defArgs s_core_question) (defBody s_core_question) (defScope s_core_question) .none kV3 dc3 pm3 an3 cd3 ct3), sl3⟩) (c3 : PySem.W.codeIn K cd3 "core_question" = true) (k3 : PySem.W.keepIn K (.ref f3) = true)
    (a4 : PySem.W.nsIn K mainGlobals "parts" = some (some (.ref f4))) (l4 : K.lookup f4 = some ⟨oc4, od4, .func (PySem.W.fnOf "parts" "parts" (defArgs s_parts) (defBody s_parts) (defScope s_parts) .none kV4 dc4 pm4 an4 cd4 ct4), sl4⟩) (c4 : PySem.W.codeIn K cd4 "parts" = true) (k4 : PySem.W.keepIn K (.ref f4) = true)
    (a5 : PySem.W.nsIn K mainGlobals "is_related" = some (some (.ref f5))) (l5 : K.lookup f5 = some ⟨oc5, od5, .func (PySem.W.fnOf "is_related" "is_related" (defArgs s_is_related) (defBody s_is_related) (defScope s_is_related) .none kV5 dc5 pm5 an5 cd5 ct5), sl5⟩) (c5 : PySem.W.codeIn K cd5 "is_related" = true) (k5 : PySem.W.keepIn K (.ref f5) = true)
    (a6 : PySem.W.nsIn K mainGlobals "members" = some (some (.ref f6))) (l6 : K.lookup f6 = some ⟨oc6, od6, .func (PySem.W.fnOf "members" "members" (defArgs s_members) (defBody s_members) (defScope s_members) .none kV6 dc6 pm6 an6 cd6 ct6), sl6⟩) (c6 : PySem.W.codeIn K cd6 "members" = true) (k6 : PySem.W.keepIn K (.ref f6) = true)
    (a7 : PySem.W.nsIn K mainGlobals "part_fault" = some (some (.ref f7))) (l7 : K.lookup f7 = some ⟨oc7, od7, .func (PySem.W.fnOf "part_fault" "part_fault" (defArgs s_part_fault) (defBody s_part_fault) (defScope s_part_fault) .none kV7 dc7 pm7 an7 cd7 ct7), sl7⟩) (c7 : PySem.W.codeIn K cd7 "part_fault" = true) (k7 : PySem.W.keepIn K (.ref f7) = true)
    (a8 : PySem.W.nsIn K mainGlobals "axiom_fault" = some (some (.ref f8))) (l8 : K.lookup f8 = some ⟨oc8, od8, .func (PySem.W.fnOf "axiom_fault" "axiom_fault" (defArgs s_axiom_fault) (defBody s_axiom_fault) (defScope s_axiom_fault) .none kV8 dc8 pm8 an8 cd8 ct8), sl8⟩) (c8 : PySem.W.codeIn K cd8 "axiom_fault" = true) (k8 : PySem.W.keepIn K (.ref f8) = true)
    (a9 : PySem.W.nsIn K mainGlobals "breaks" = some (some (.ref f9))) (l9 : K.lookup f9 = some ⟨oc9, od9, .func (PySem.W.fnOf "breaks" "breaks" (defArgs s_breaks) (defBody s_breaks) (defScope s_breaks) .none kV9 dc9 pm9 an9 cd9 ct9), sl9⟩) (c9 : PySem.W.codeIn K cd9 "breaks" = true) (k9 : PySem.W.keepIn K (.ref f9) = true)
    (a10 : PySem.W.nsIn K mainGlobals "answers" = some (some (.ref f10))) (l10 : K.lookup f10 = some ⟨oc10, od10, .func (PySem.W.fnOf "answers" "answers" (defArgs s_answers) (defBody s_answers) (defScope s_answers) .none kV10 dc10 pm10 an10 cd10 ct10), sl10⟩) (c10 : PySem.W.codeIn K cd10 "answers" = true) (k10 : PySem.W.keepIn K (.ref f10) = true)
    (a11 : PySem.W.nsIn K mainGlobals "_law_cell" = some (some (.ref f11))) (l11 : K.lookup f11 = some ⟨oc11, od11, .func (PySem.W.fnOf "_law_cell" "_law_cell" (defArgs s__law_cell) (defBody s__law_cell) (defScope s__law_cell) .none kV11 dc11 pm11 an11 cd11 ct11), sl11⟩) (c11 : PySem.W.codeIn K cd11 "_law_cell" = true) (k11 : PySem.W.keepIn K (.ref f11) = true)
    (a12 : PySem.W.nsIn K mainGlobals "_law_draws" = some (some (.ref f12))) (l12 : K.lookup f12 = some ⟨oc12, od12, .func (PySem.W.fnOf "_law_draws" "_law_draws" (defArgs s__law_draws) (defBody s__law_draws) (defScope s__law_draws) .none kV12 dc12 pm12 an12 cd12 ct12), sl12⟩) (c12 : PySem.W.codeIn K cd12 "_law_draws" = true) (k12 : PySem.W.keepIn K (.ref f12) = true)
    (a13 : PySem.W.nsIn K mainGlobals "_law_take" = some (some (.ref f13))) (l13 : K.lookup f13 = some ⟨oc13, od13, .func (PySem.W.fnOf "_law_take" "_law_take" (defArgs s__law_take) (defBody s__law_take) (defScope s__law_take) .none kV13 dc13 pm13 an13 cd13 ct13), sl13⟩) (c13 : PySem.W.codeIn K cd13 "_law_take" = true) (k13 : PySem.W.keepIn K (.ref f13) = true)
    (a14 : PySem.W.nsIn K mainGlobals "_law_frame" = some (some (.ref f14))) (l14 : K.lookup f14 = some ⟨oc14, od14, .func (PySem.W.fnOf "_law_frame" "_law_frame" (defArgs s__law_frame) (defBody s__law_frame) (defScope s__law_frame) .none kV14 dc14 pm14 an14 cd14 ct14), sl14⟩) (c14 : PySem.W.codeIn K cd14 "_law_frame" = true) (k14 : PySem.W.keepIn K (.ref f14) = true)
    (a15 : PySem.W.nsIn K mainGlobals "_law_names" = some (some (.ref f15))) (l15 : K.lookup f15 = some ⟨oc15, od15, .func (PySem.W.fnOf "_law_names" "_law_names" (defArgs s__law_names) (defBody s__law_names) (defScope s__law_names) .none kV15 dc15 pm15 an15 cd15 ct15), sl15⟩) (c15 : PySem.W.codeIn K cd15 "_law_names" = true) (k15 : PySem.W.keepIn K (.ref f15) = true)
    (a16 : PySem.W.nsIn K mainGlobals "_law_role" = some (some (.ref f16))) (l16 : K.lookup f16 = some ⟨oc16, od16, .func (PySem.W.fnOf "_law_role" "_law_role" (defArgs s__law_role) (defBody s__law_role) (defScope s__law_role) .none kV16 dc16 pm16 an16 cd16 ct16), sl16⟩) (c16 : PySem.W.codeIn K cd16 "_law_role" = true) (k16 : PySem.W.keepIn K (.ref f16) = true)
    (a17 : PySem.W.nsIn K mainGlobals "_law_concept" = some (some (.ref f17))) (l17 : K.lookup f17 = some ⟨oc17, od17, .func (PySem.W.fnOf "_law_concept" "_law_concept" (defArgs s__law_concept) (defBody s__law_concept) (defScope s__law_concept) .none kV17 dc17 pm17 an17 cd17 ct17), sl17⟩) (c17 : PySem.W.codeIn K cd17 "_law_concept" = true) (k17 : PySem.W.keepIn K (.ref f17) = true)
    (a18 : PySem.W.nsIn K mainGlobals "_law_statement" = some (some (.ref f18))) (l18 : K.lookup f18 = some ⟨oc18, od18, .func (PySem.W.fnOf "_law_statement" "_law_statement" (defArgs s__law_statement) (defBody s__law_statement) (defScope s__law_statement) .none kV18 dc18 pm18 an18 cd18 ct18), sl18⟩) (c18 : PySem.W.codeIn K cd18 "_law_statement" = true) (k18 : PySem.W.keepIn K (.ref f18) = true)
    (a19 : PySem.W.nsIn K mainGlobals "_law_question" = some (some (.ref f19))) (l19 : K.lookup f19 = some ⟨oc19, od19, .func (PySem.W.fnOf "_law_question" "_law_question" (defArgs s__law_question) (defBody s__law_question) (defScope s__law_question) .none kV19 dc19 pm19 an19 cd19 ct19), sl19⟩) (c19 : PySem.W.codeIn K cd19 "_law_question" = true) (k19 : PySem.W.keepIn K (.ref f19) = true)
    (a20 : PySem.W.nsIn K mainGlobals "_law_sizes" = some (some (.ref f20))) (l20 : K.lookup f20 = some ⟨oc20, od20, .func (PySem.W.fnOf "_law_sizes" "_law_sizes" (defArgs s__law_sizes) (defBody s__law_sizes) (defScope s__law_sizes) .none kV20 dc20 pm20 an20 cd20 ct20), sl20⟩) (c20 : PySem.W.codeIn K cd20 "_law_sizes" = true) (k20 : PySem.W.keepIn K (.ref f20) = true)
    (a21 : PySem.W.nsIn K mainGlobals "_law_same" = some (some (.ref f21))) (l21 : K.lookup f21 = some ⟨oc21, od21, .func (PySem.W.fnOf "_law_same" "_law_same" (defArgs s__law_same) (defBody s__law_same) (defScope s__law_same) .none kV21 dc21 pm21 an21 cd21 ct21), sl21⟩) (c21 : PySem.W.codeIn K cd21 "_law_same" = true) (k21 : PySem.W.keepIn K (.ref f21) = true)
    (a22 : PySem.W.nsIn K mainGlobals "_law_model" = some (some (.ref f22))) (l22 : K.lookup f22 = some ⟨oc22, od22, .func (PySem.W.fnOf "_law_model" "_law_model" (defArgs s__law_model) (defBody s__law_model) (defScope s__law_model) .none kV22 dc22 pm22 an22 cd22 ct22), sl22⟩) (c22 : PySem.W.codeIn K cd22 "_law_model" = true) (k22 : PySem.W.keepIn K (.ref f22) = true)
    (a23 : PySem.W.nsIn K mainGlobals "_law_linked" = some (some (.ref f23))) (l23 : K.lookup f23 = some ⟨oc23, od23, .func (PySem.W.fnOf "_law_linked" "_law_linked" (defArgs s__law_linked) (defBody s__law_linked) (defScope s__law_linked) .none kV23 dc23 pm23 an23 cd23 ct23), sl23⟩) (c23 : PySem.W.codeIn K cd23 "_law_linked" = true) (k23 : PySem.W.keepIn K (.ref f23) = true)
    (a24 : PySem.W.nsIn K mainGlobals "_law_belongs" = some (some (.ref f24))) (l24 : K.lookup f24 = some ⟨oc24, od24, .func (PySem.W.fnOf "_law_belongs" "_law_belongs" (defArgs s__law_belongs) (defBody s__law_belongs) (defScope s__law_belongs) .none kV24 dc24 pm24 an24 cd24 ct24), sl24⟩) (c24 : PySem.W.codeIn K cd24 "_law_belongs" = true) (k24 : PySem.W.keepIn K (.ref f24) = true)
    (a25 : PySem.W.nsIn K mainGlobals "_law_true" = some (some (.ref f25))) (l25 : K.lookup f25 = some ⟨oc25, od25, .func (PySem.W.fnOf "_law_true" "_law_true" (defArgs s__law_true) (defBody s__law_true) (defScope s__law_true) .none kV25 dc25 pm25 an25 cd25 ct25), sl25⟩) (c25 : PySem.W.codeIn K cd25 "_law_true" = true) (k25 : PySem.W.keepIn K (.ref f25) = true)
    (a26 : PySem.W.nsIn K mainGlobals "_law_told_names" = some (some (.ref f26))) (l26 : K.lookup f26 = some ⟨oc26, od26, .func (PySem.W.fnOf "_law_told_names" "_law_told_names" (defArgs s__law_told_names) (defBody s__law_told_names) (defScope s__law_told_names) .none kV26 dc26 pm26 an26 cd26 ct26), sl26⟩) (c26 : PySem.W.codeIn K cd26 "_law_told_names" = true) (k26 : PySem.W.keepIn K (.ref f26) = true)
    (a27 : PySem.W.nsIn K mainGlobals "law" = some (some (.ref f27))) (l27 : K.lookup f27 = some ⟨oc27, od27, .func (PySem.W.fnOf "law" "law" (defArgs s_law) (defBody s_law) (defScope s_law) .none kV27 dc27 pm27 an27 cd27 ct27), sl27⟩) (c27 : PySem.W.codeIn K cd27 "law" = true) (k27 : PySem.W.keepIn K (.ref f27) = true)
    (aa : PySem.W.nsIn K mainGlobals "ANY" = some (some (.ref aA))) (la : K.lookup aA = some oA) (e1 : oA.cls = .type "tuple") (e2 : oA.data = .seq itA nA) (e3 : itA.toList = [u]) (e4 : absV u = some (.str "any"))
    (z0 : PySem.W.nsIn K mainGlobals "len" = some none)
    (z1 : PySem.W.nsIn K mainGlobals "any" = some none)
    (z2 : PySem.W.nsIn K mainGlobals "all" = some none)
    (z3 : PySem.W.nsIn K mainGlobals "min" = some none)
    (z4 : PySem.W.nsIn K mainGlobals "isinstance" = some none)
    (z5 : PySem.W.nsIn K mainGlobals "tuple" = some none)
    (z6 : PySem.W.nsIn K mainGlobals "list" = some none)
    (z7 : PySem.W.nsIn K mainGlobals "int" = some none)
    (z8 : PySem.W.nsIn K mainGlobals "range" = some none)
    (z9 : PySem.W.nsIn K mainGlobals "enumerate" = some none)
    (z10 : PySem.W.nsIn K mainGlobals "bool" = some none)
    (z11 : PySem.W.nsIn K mainGlobals "str" = some none)
    : ∃ fd : FuncData, (∀ (s : Shared) (v : Value), BindsTo s fd ⟨[v], []⟩ [("_law_script", v)]) ∧ ∀ base : Heap, K.In base → base.Ns mainGlobals mg → FnOk PR w K mg base CX0 60 fa fd ["_law_script"] (spP K preLw postLw) := by
  have e := hfa.symm.trans (PySem.W.mg_of X G a27)
  cases e
  have T : Txt K mg aA :=
    { mlen := PySem.W.mg_none_of X G z0
      many := PySem.W.mg_none_of X G z1
      mall := PySem.W.mg_none_of X G z2
      mmin := PySem.W.mg_none_of X G z3
      misi := PySem.W.mg_none_of X G z4
      mtuple := PySem.W.mg_none_of X G z5
      mlist := PySem.W.mg_none_of X G z6
      mint := PySem.W.mg_none_of X G z7
      mrange := PySem.W.mg_none_of X G z8
      menum := PySem.W.mg_none_of X G z9
      mbool := PySem.W.mg_none_of X G z10
      mstr := PySem.W.mg_none_of X G z11
      mANY := PySem.W.mg_of X G aa
      dANY := any_dq la e1 e2 e3 e4
      d_inverse_of := ⟨_, _, fun_mk (st := s_inverse_of) l0 c0 k0, PySem.W.mg_of X G a0⟩
      d_core_role := ⟨_, _, fun_mk (st := s_core_role) l1 c1 k1, PySem.W.mg_of X G a1⟩
      d_core_concept := ⟨_, _, fun_mk (st := s_core_concept) l2 c2 k2, PySem.W.mg_of X G a2⟩
      d_core_question := ⟨_, _, fun_mk (st := s_core_question) l3 c3 k3, PySem.W.mg_of X G a3⟩
      d_parts := ⟨_, _, fun_mk (st := s_parts) l4 c4 k4, PySem.W.mg_of X G a4⟩
      d_is_related := ⟨_, _, fun_mk (st := s_is_related) l5 c5 k5, PySem.W.mg_of X G a5⟩
      d_members := ⟨_, _, fun_mk (st := s_members) l6 c6 k6, PySem.W.mg_of X G a6⟩
      d_part_fault := ⟨_, _, fun_mk (st := s_part_fault) l7 c7 k7, PySem.W.mg_of X G a7⟩
      d_axiom_fault := ⟨_, _, fun_mk (st := s_axiom_fault) l8 c8 k8, PySem.W.mg_of X G a8⟩
      d_breaks := ⟨_, _, fun_mk (st := s_breaks) l9 c9 k9, PySem.W.mg_of X G a9⟩
      d_answers := ⟨_, _, fun_mk (st := s_answers) l10 c10 k10, PySem.W.mg_of X G a10⟩
      d__law_cell := ⟨_, _, fun_mk (st := s__law_cell) l11 c11 k11, PySem.W.mg_of X G a11⟩
      d__law_draws := ⟨_, _, fun_mk (st := s__law_draws) l12 c12 k12, PySem.W.mg_of X G a12⟩
      d__law_take := ⟨_, _, fun_mk (st := s__law_take) l13 c13 k13, PySem.W.mg_of X G a13⟩
      d__law_frame := ⟨_, _, fun_mk (st := s__law_frame) l14 c14 k14, PySem.W.mg_of X G a14⟩
      d__law_names := ⟨_, _, fun_mk (st := s__law_names) l15 c15 k15, PySem.W.mg_of X G a15⟩
      d__law_role := ⟨_, _, fun_mk (st := s__law_role) l16 c16 k16, PySem.W.mg_of X G a16⟩
      d__law_concept := ⟨_, _, fun_mk (st := s__law_concept) l17 c17 k17, PySem.W.mg_of X G a17⟩
      d__law_statement := ⟨_, _, fun_mk (st := s__law_statement) l18 c18 k18, PySem.W.mg_of X G a18⟩
      d__law_question := ⟨_, _, fun_mk (st := s__law_question) l19 c19 k19, PySem.W.mg_of X G a19⟩
      d__law_sizes := ⟨_, _, fun_mk (st := s__law_sizes) l20 c20 k20, PySem.W.mg_of X G a20⟩
      d__law_same := ⟨_, _, fun_mk (st := s__law_same) l21 c21 k21, PySem.W.mg_of X G a21⟩
      d__law_model := ⟨_, _, fun_mk (st := s__law_model) l22 c22 k22, PySem.W.mg_of X G a22⟩
      d__law_linked := ⟨_, _, fun_mk (st := s__law_linked) l23 c23 k23, PySem.W.mg_of X G a23⟩
      d__law_belongs := ⟨_, _, fun_mk (st := s__law_belongs) l24 c24 k24, PySem.W.mg_of X G a24⟩
      d__law_true := ⟨_, _, fun_mk (st := s__law_true) l25 c25 k25, PySem.W.mg_of X G a25⟩
      d__law_told_names := ⟨_, _, fun_mk (st := s__law_told_names) l26 c26 k26, PySem.W.mg_of X G a26⟩
      d_law := ⟨_, _, fun_mk (st := s_law) l27 c27 k27, PySem.W.mg_of X G a27⟩ }
  exact ⟨PySem.W.fnOf "law" "law" (defArgs s_law) (defBody s_law) (defScope s_law) .none kV27 dc27 pm27 an27 cd27 ct27, fun s v => .of_eq rfl, fun base _ _ => ok_law T (fun_mk (st := s_law) l27 c27 k27)⟩
theorem sp_law {K : PySem.W.Frag} {H : Hp} {a : Addr} {ns : List Int} (h : SqL K H a (ns.map V.int)) : spP K preLw postLw [.ref a] H (fun v _ => v = .bl true) fun _ _ _ => False := by
  have e : hd [] H = H := by
    funext b
    unfold hd
    rw [if_neg (fun m => by cases m)]
  refine ⟨ns, [], [.lst (ns.map Da.int)], (fun z m => by cases m), .cons (.lst (by rw [e]; exact h) (DqAll.intAll ns)) .nil, rfl, fun v d H' _ hd' dv => ?_⟩
  cases hd'
  cases dv
  rfl
theorem walk {l : PySem.W.OpenLaw} {q : Program} {loose : List Str} {XP : (Str → Option Value) → Heap → Prop} {YP : World → Heap → Prop} {d : DefRec} {K : Params → PySem.W.Frag} (hn : l.most = some 63) (hdf : d.params.defaults = [])
    (hY : ∀ (w : World) (h : Heap), YP w h → (K w.params).In h)
    (F : ∀ (w : World) (mg : Str → Option Value) (fa : Addr) (h : Heap), (K w.params).In h → h.Ns mainGlobals mg → mg d.name = some (.ref fa) →
      ∃ fd : FuncData, (∀ (s : Shared) (u : Value), BindsTo s fd ⟨[u], []⟩ [("_law_script", u)]) ∧ ∀ base : Heap, (K w.params).In base → base.Ns mainGlobals mg → FnOk l.prog w (K w.params) mg base CX0 60 fa fd ["_law_script"] (spP (K w.params) preLw postLw)) :
    PySem.W.WalkO q loose XP YP l.row.toRowW d [] (fun f vs => PySem.call f vs) :=
  L2.walk_of (n := 63) (k := 60) (x := "_law_script") (CX := fun _ => CX0) (sp := fun w => spP (K w.params) preLw postLw) hn (by decide) hdf ⟨rfl, by decide, by decide⟩ hY F (fun _ _ _ _ _ _ hS => sp_law hS) fun _ _ _ _ _ z => z
end Kw
open PySem PySem.W PyProof.Rows
set_option maxRecDepth 100000 in
set_option maxHeartbeats 0 in
theorem PySem.Challenge.cw_ontoworks_k54_whole_meaning_holds : PySem.Challenge.rw_ontoworks_k54_whole_meaning.Holds := by
  w_on; o_law; k_head; (case hw => w_witness2)
  k_fill
  refine Kw.walk (l := PySem.Challenge.rw_ontoworks_k54_whole_meaning) rfl rfl (fun w h Y => PySem.W.kIn_of Y) ?F
  case F =>
    intro w mg fa h KX G hmg
    refine' Kw.all_mk KX G hmg ?a0 ?l0 ?c0 ?k0 ?a1 ?l1 ?c1 ?k1 ?a2 ?l2 ?c2 ?k2 ?a3 ?l3 ?c3 ?k3 ?a4 ?l4 ?c4 ?k4 ?a5 ?l5 ?c5 ?k5 ?a6 ?l6 ?c6 ?k6 ?a7 ?l7 ?c7 ?k7 ?a8 ?l8 ?c8 ?k8 ?a9 ?l9 ?c9 ?k9 ?a10 ?l10 ?c10 ?k10 ?a11 ?l11 ?c11 ?k11 ?a12 ?l12 ?c12 ?k12 ?a13 ?l13 ?c13 ?k13 ?a14 ?l14 ?c14 ?k14 ?a15 ?l15 ?c15 ?k15 ?a16 ?l16 ?c16 ?k16 ?a17 ?l17 ?c17 ?k17 ?a18 ?l18 ?c18 ?k18 ?a19 ?l19 ?c19 ?k19 ?a20 ?l20 ?c20 ?k20 ?a21 ?l21 ?c21 ?k21 ?a22 ?l22 ?c22 ?k22 ?a23 ?l23 ?c23 ?k23 ?a24 ?l24 ?c24 ?k24 ?a25 ?l25 ?c25 ?k25 ?a26 ?l26 ?c26 ?k26 ?a27 ?l27 ?c27 ?k27 ?aa ?la ?e1 ?e2 ?e3 ?e4 ?z0 ?z1 ?z2 ?z3 ?z4 ?z5 ?z6 ?z7 ?z8 ?z9 ?z10 ?z11
    (case a0 => k_is); (case l0 => k_is); (case c0 => k_is); (case k0 => k_is)
    (case a1 => k_is); (case l1 => k_is); (case c1 => k_is); (case k1 => k_is)
    (case a2 => k_is); (case l2 => k_is); (case c2 => k_is); (case k2 => k_is)
    (case a3 => k_is); (case l3 => k_is); (case c3 => k_is); (case k3 => k_is)
    (case a4 => k_is); (case l4 => k_is); (case c4 => k_is); (case k4 => k_is)
    (case a5 => k_is); (case l5 => k_is); (case c5 => k_is); (case k5 => k_is)
    (case a6 => k_is); (case l6 => k_is); (case c6 => k_is); (case k6 => k_is)
    (case a7 => k_is); (case l7 => k_is); (case c7 => k_is); (case k7 => k_is)
    (case a8 => k_is); (case l8 => k_is); (case c8 => k_is); (case k8 => k_is)
    (case a9 => k_is); (case l9 => k_is); (case c9 => k_is); (case k9 => k_is)
    (case a10 => k_is); (case l10 => k_is); (case c10 => k_is); (case k10 => k_is)
    (case a11 => k_is); (case l11 => k_is); (case c11 => k_is); (case k11 => k_is)
    (case a12 => k_is); (case l12 => k_is); (case c12 => k_is); (case k12 => k_is)
    (case a13 => k_is); (case l13 => k_is); (case c13 => k_is); (case k13 => k_is)
    (case a14 => k_is); (case l14 => k_is); (case c14 => k_is); (case k14 => k_is)
    (case a15 => k_is); (case l15 => k_is); (case c15 => k_is); (case k15 => k_is)
    (case a16 => k_is); (case l16 => k_is); (case c16 => k_is); (case k16 => k_is)
    (case a17 => k_is); (case l17 => k_is); (case c17 => k_is); (case k17 => k_is)
    (case a18 => k_is); (case l18 => k_is); (case c18 => k_is); (case k18 => k_is)
    (case a19 => k_is); (case l19 => k_is); (case c19 => k_is); (case k19 => k_is)
    (case a20 => k_is); (case l20 => k_is); (case c20 => k_is); (case k20 => k_is)
    (case a21 => k_is); (case l21 => k_is); (case c21 => k_is); (case k21 => k_is)
    (case a22 => k_is); (case l22 => k_is); (case c22 => k_is); (case k22 => k_is)
    (case a23 => k_is); (case l23 => k_is); (case c23 => k_is); (case k23 => k_is)
    (case a24 => k_is); (case l24 => k_is); (case c24 => k_is); (case k24 => k_is)
    (case a25 => k_is); (case l25 => k_is); (case c25 => k_is); (case k25 => k_is)
    (case a26 => k_is); (case l26 => k_is); (case c26 => k_is); (case k26 => k_is)
    (case a27 => k_is); (case l27 => k_is); (case c27 => k_is); (case k27 => k_is)
    (case aa => k_is); (case la => k_is); (case e1 => rfl); (case e2 => rfl); (case e3 => rfl); (case e4 => rfl)
    (case z0 => k_is); (case z1 => k_is); (case z2 => k_is); (case z3 => k_is); (case z4 => k_is); (case z5 => k_is); (case z6 => k_is); (case z7 => k_is); (case z8 => k_is); (case z9 => k_is); (case z10 => k_is); (case z11 => k_is)
