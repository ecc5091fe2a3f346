import PyProof.Rows.All
import Wide.All
import OpenK.AllK
import Wide.FinOn
import HandS.ForMost
import HandS.Walk
import HandS.Deep
import HandS.Zip
import KE.GoesMore
import HandS.More
import KE.KDictList
import PyProof.StrBlock2
import HandS.Defaults
import HandS.HeadHook3
import KE.KStateDown
import HandS.Head0
import HandS.Head1
import HandS.Head2
import HandS.HeadEnd
import HandS.TupAny
import HandS.Strs
import HandS.DictComp
import HandS.WordsDict
import PyProof.ReprLen
import HandS.SortKw
import HandS.ExcValue
import KE.SortKeyHeap
import PySem.Challenge.RW_farfacts_k48_slices_decide_alike
set_option Elab.async false
set_option linter.all false
set_option maxRecDepth 100000
set_option maxHeartbeats 4000000
/-! further rules: enumerate over a tuple; a value within a tuple at any depth; < of truths -/
namespace FF
open PySem PySem.Spec PyProof.Rows L2
open AutoSeq1 (wpAny_loadPart')

theorem meets_enumerate_newT (l : Addr) (items : Array Value) (n : Nat) (dct : Option Addr) (sl : Array (Option Value)) :
    Meets (Builtin.«enumerate.__new__» ⟨[.type "enumerate", .ref l], []⟩) (fun _ R s => s.heap.get? l = some { cls := .type "tuple", dict := dct, data := .seq items n, slots := sl } ∧
      R (.ok (.ret (.ref (s.heap.push { cls := .type "tuple_iterator", data := .fields #[.ref l, .int 0 0] }).objs.size)))
        { s with heap := (s.heap.push { cls := .type "tuple_iterator", data := .fields #[.ref l, .int 0 0] }).push { cls := .type "enumerate", data := .fields #[.none, .bool false, .ref s.heap.objs.size, rawInt 0, .none, .none] } }) :=
  .of_wp fun prog w A R s h => by
    obtain ⟨hp, g, d, tk, os⟩ := s; obtain ⟨hl, h⟩ := h
    have hsub := sub_enumerate
    have hL : Heap.IsTuple (Shared.heap ⟨hp, g, d, tk, os⟩) l items := ⟨_, hl, rfl, n, rfl⟩
    wp_walk using wpAny_loadPart' hl
    refine wpAny_stack_any fun st => wpAny_pure ?_
    split
    · rename_i c _ _ _ _ _
      cases (c == Value.type "enumerate")
      · wp_walk using wpAny_loadPart' hl, wpAny_pyIter_tuple hL
        exact ⟨_, rfl, h⟩
      · wp_walk using wpAny_loadPart' hl, wpAny_pyIter_tuple hL
        exact ⟨_, rfl, h⟩
    · wp_walk using wpAny_loadPart' hl, wpAny_pyIter_tuple hL
      exact ⟨_, rfl, h⟩
section
variable {prog : Program} {w : World} {A : Around} {E : Value → Shared → Prop} {s : Shared}
theorem call_enumerate_tuple {l : Addr} {items : Array Value} {Q : Value → Shared → Prop} (hL : s.heap.IsTuple l items)
    (h : ∀ h', IsEnum h' (s.heap.objs.size + 1) s.heap.objs.size 0 .none → h'.IsTupleIter s.heap.objs.size l 0 → h'.objs.size = s.heap.objs.size + 2 →
      (∀ b o, s.heap.get? b = some o → h'.get? b = some o) → Q (.ref (s.heap.objs.size + 1)) { s with heap := h' }) :
    wpAny (model prog w) A (call (.type "enumerate") [.ref l]) Q E s := by
  obtain ⟨⟨c, dct, dt, sl⟩, hl, hc, n, hd⟩ := hL
  replace hc : c = .type "tuple" := hc
  replace hd : dt = .seq items n := hd
  subst hc hd
  refine callType_new F.called_enumerate (by decide) (F.typeCall_enumerate_1 _) (F.newCall_enumerate_1 _) (fun obj => F.args_object_init_2 obj _) F.entry_enumerate_new
    (meets_enumerate_newT l items n dct sl) ⟨hl, ?_⟩
  have hz : (s.heap.push { cls := .type "tuple_iterator", data := .fields #[.ref l, .int 0 0] }).objs.size = s.heap.objs.size + 1 := Heap.size_push ..
  show _ ∧ _
  rw [hz]
  have he : IsEnum ((s.heap.push { cls := .type "tuple_iterator", data := .fields #[.ref l, .int 0 0] }).push
      { cls := .type "enumerate", data := .fields #[.none, .bool false, .ref s.heap.objs.size, rawInt 0, .none, .none] }) (s.heap.objs.size + 1) s.heap.objs.size 0 .none := by
    have := Heap.get?_push_size (s.heap.push { cls := .type "tuple_iterator", data := .fields #[.ref l, .int 0 0] })
      (o := { cls := .type "enumerate", data := .fields #[.none, .bool false, .ref s.heap.objs.size, rawInt 0, .none, .none] }) rfl
    rw [hz] at this; exact this
  refine ⟨⟨_, he, rfl⟩, h _ he ⟨_, Heap.get?_push_of_some _ (Heap.get?_push_size _ rfl), rfl, rfl⟩ (by rw [Heap.size_push, hz]) fun b o x => Heap.get?_push_of_some _ (Heap.get?_push_of_some _ x)⟩
end
def IteT (K : PySem.W.Frag) (a : Addr) : It :=
  ⟨fun i H => ∃ (xs : List V) (x : V), SqT K H a xs ∧ xs[i]? = some x, fun i H v H' => ∃ T x, v = .ref T ∧ H T = none ∧ H' = upd H T (.tup [.int (i : Nat), x]) ∧ ∀ xs, SqT K H a xs → xs[i]? = some x, fun i H => ∃ xs : List V, SqT K H a xs ∧ xs.length ≤ i⟩
theorem turn_enumT {P : Program} {w : World} {K : PySem.W.Frag} {elts : List Expr} {kk : Nat} {tpos : Pos} (a e it : Addr) :
    Turn P w K (.Tuple elts kk tpos) (IteT K a) [e, it] e (fun i h => (∃ old, IsEnum h e it ((i : Nat) : Int) old) ∧ h.IsTupleIter it a i ∧ e ≠ it) where
  mem := by simp
  obj := fun i h st b hb => by
    obtain ⟨⟨old, he⟩, ⟨o, ho, hc, hd⟩, _⟩ := st
    have e' : b = e ∨ b = it := by simpa using hb
    rcases e' with z | z
    · rw [z]; exact ⟨_, he, fun v q => nomatch q⟩
    · rw [z]; exact ⟨o, ho, fun v q => by rw [hd] at q; cases q⟩
  keep := fun i h h' st k => let ⟨⟨old, he⟩, hi, hne⟩ := st; ⟨⟨old, k e (by simp) _ he⟩, hi.at fun o q => k it (by simp) o q, hne⟩
  item := by
    intro X hP hw hK hc i pins s σ H E I hf st hg
    subst hP hw hK
    obtain ⟨⟨old, he⟩, hit, hne⟩ := st
    obtain ⟨xs, x, hq, hx⟩ := hg
    obtain ⟨its, rv, p, hz⟩ := I.tuple hq
    obtain ⟨u, hu, ru⟩ := rv.get hx
    have hel : e < s.heap.objs.size := Heap.lt_size he
    have hil : it < s.heap.objs.size := by obtain ⟨_, q, _⟩ := hit; exact Heap.lt_size q
    have hai : a ≠ it := fun z => by
      obtain ⟨o, h1, h2, n, h3⟩ := p
      obtain ⟨o2, g1, g2, g3⟩ := hit
      rw [z, g1] at h1
      cases h1
      rw [g2] at h2
      exact absurd h2 (by intro q; injection q with q; revert q; decide)
    have hea : e ≠ a := fun z => by
      obtain ⟨o, h1, h2, n, h3⟩ := p
      have he' : s.heap.get? e = _ := he
      rw [z, h1] at he'
      cases he'
      exact absurd h2 (by intro q; injection q with q; revert q; decide)
    have hlt : i < its.toArray.size := by
      have := (List.getElem?_eq_some_iff.mp hu).1
      simpa using this
    refine wpAny_pyNext_enum_itemD (Draws.tuple (A := X.A.in1) (I.ok.hd hc) it a hai its.toArray) he ⟨hit, p⟩ hlt hne (by simp [hne, hea]) fun x' h' tk hx' ho hst hT hsz hk => ?_
    have ex : x' = u := by
      have q1 : its.toArray[i]? = some x' := hx'
      have q2 : its.toArray[i]? = some u := by simpa using hu
      rw [q1] at q2
      exact Option.some.inj q2
    subst ex
    obtain ⟨hit', _⟩ := hst
    refine ⟨_, rfl, wpAny_letOwnedTupleGo_enum (s := { s with heap := h', toks := tk + 1 }) ho fun h'' he' sb => ?_⟩
    have hT2 : h''.get? s.heap.objs.size = some { cls := .type "tuple", data := .seq #[.int i tk, x'] } := (sb.2 _ (Nat.ne_of_gt hel)).trans hT
    have new : ObjOk X.prog X.w (upd H s.heap.objs.size (.tup [.int (i : Nat), x])) h'' s.heap.objs.size (.tup [.int (i : Nat), x]) :=
      ⟨by show 2 ≤ sizeLine; decide, [.int i tk, x'], .cons ⟨_, rfl⟩ (.cons ru .nil), ⟨_, hT2, rfl, _, rfl⟩⟩
    have I1 : Inv X pins σ (upd H s.heap.objs.size (.tup [.int (i : Nat), x])) { s with heap := h'', toks := tk + 1 } :=
      I.turnedNew (ch := [e, it]) (fun b ob hb q => (sb.2 b (fun z => hb (by simp [z]))).trans (hk b ob (fun z => hb (by simp [z])) (fun z => hb (by simp [z])) q)) hf (Nat.le_refl _) new
    refine ⟨.ref s.heap.objs.size, _, I1, rfl, ⟨_, x, rfl, I.hok.fresh (Nat.le_refl _), rfl, fun ys hy => by rw [I.tuple_inj hy hq]; exact hx⟩, ⟨⟨x', ?_⟩, hit'.at fun o q => (sb.2 it (Ne.symm hne)).trans q, hne⟩, fun b hb => ?_⟩
    · have e1 : ((i + 1 : Nat) : Int) = (i : Int) + 1 := by omega
      rw [e1]; exact he'
    · have hb' : b < s.heap.objs.size := by
        have e' : b = e ∨ b = it := by simpa using hb
        rcases e' with z | z
        · rw [z]; exact hel
        · rw [z]; exact hil
      rw [upd_ne (Nat.ne_of_lt hb')]
      exact (hf b hb).1
  done := by
    intro X hP hw hK hc i pins s σ H E I hf st hg
    subst hP hw hK
    obtain ⟨⟨old, he⟩, hit, hne⟩ := st
    obtain ⟨xs, hq, hx⟩ := hg
    obtain ⟨its, rv, p, hz⟩ := I.tuple hq
    obtain ⟨f0, f1, f2, f3, f4, f5⟩ := hf it (by simp)
    have hl := rv.length
    have hT : s.TypeIs (.ref e) "enumerate" := ⟨_, he, rfl⟩
    unfold pyNext
    refine wpAny_bind (wpAny_attempt (wpAny_callSpecial?_slot (name := Str.ofString "__next__") hT F.slot_enumerate_next
      (wpAny_call_entry F.slot_enumerate_next hT F.entry_enumerate_next ?_ (F.args_enumerate_next_1 _))))
    show wpAny _ _ (field (.ref e) 2 >>= _) _ _ _
    refine wpAny_bind (wpAny_field he rfl (x := .ref it) rfl ?_)
    refine wpAny_bind (wpAny_nextOf_tuple_end (I.ok.hd hc) hit p (by simp; omega) fun h' x he' hx' => ?_)
    obtain ⟨o, ho, hc'⟩ := hx'
    refine wpAny_bind (wpAny_isInstance (T := "StopIteration") (b := true) ⟨o, ho, hc'⟩ isSubtype_stop ?_)
    exact wpAny_pure ⟨rfl, I.turned (t' := s.toks) (fun b o hb q => he' b o hb q) f0 f1 f3 f4 f5⟩
  self := fun A i s Q E st h => let ⟨⟨_, he⟩, _⟩ := st; wpAny_pyIter_enum he h
def iEnumT (K : PySem.W.Frag) (ta : TA) : TI := fun σ H R => ta σ H fun vs H1 => ∃ a xs, vs = [.ref a] ∧ SqT K H1 a xs ∧ R (IteT K a) H1
theorem pi_enumT {X : Cx} {e : Expr} {ta : TA} {p pos tpos : Pos} {elts : List Expr} {kk : Nat} (hg : Gl X "enumerate") (hm : X.mg "enumerate" = none) (ha : PA X [e] ta) (hs : starEach [e] X.env = [(false, eval e X.env)] := by rfl) :
    PI X (.Tuple elts kk tpos) (.Call (.Name "enumerate" p) [e] [] pos) (iEnumT X.K ta) := by
  refine ⟨fun pins s σ H R I h => ?_⟩
  refine Call_ (ld_blt I hg hm boot_enumerate (PyProof.Rows.callWith_type1 (thn (ha.run pos pins s σ H _ I h) fun us s1 ⟨vs, H1, I1, r1, q1⟩ => ?_) hs rfl))
  obtain ⟨a, xs, ex, hq, q⟩ := q1
  subst ex
  cases r1 with
  | cons r rr =>
    cases rr
    cases r
    obtain ⟨its, rv, p', hz⟩ := I1.tuple hq
    refine call_enumerate_tuple p' fun h' he hit hsz hk => wpAny_pyIter_enum he ?_
    have I2 : Inv X pins σ H1 { s1 with heap := h' } := I1.kept (t' := s1.toks) hk
    refine ⟨s1.heap.objs.size + 1, [s1.heap.objs.size + 1, s1.heap.objs.size], _, _, H1, rfl, I2, turn_enumT a (s1.heap.objs.size + 1) s1.heap.objs.size, ⟨⟨.none, he⟩, hit, Nat.succ_ne_self _⟩, fun b hb => ?_, q⟩
    have e' : b = s1.heap.objs.size + 1 ∨ b = s1.heap.objs.size := by simpa using hb
    have hle : s1.heap.objs.size ≤ b := by
      rcases e' with z | z
      · rw [z]; exact Nat.le_add_right _ _
      · rw [z]; exact Nat.le_refl _
    exact I1.fpOk hle (I1.hok.fresh hle)
theorem walk_enumT {K : PySem.W.Frag} {a : Addr} {xs : List V} : L2.Walk (IteT K a) xs.length (fun H => SqT K H a xs) (YPair (fun i => some (.int (i : Nat))) (fun i => xs[i]?)) := by
  refine ⟨fun i _ hi q => ⟨xs, xs[i], q, by simp [hi]⟩, fun _ q => ⟨xs, q, Nat.le_refl _⟩, fun i H v H' _ q y => ?_⟩
  obtain ⟨T, x, h1, h2, h3, h4⟩ := y
  exact ⟨T, .int (i : Nat), x, h1, h2, h3, rfl, h4 xs q⟩
theorem walk_zipT {K : PySem.W.Frag} {a b : Addr} {xs ys : List V} {n : Nat} (hn : n = min xs.length ys.length) : L2.Walk (RZ.ItzT K a b) n (fun H => SqT K H a xs ∧ SqT K H b ys) (YPair (fun i => xs[i]?) (fun i => ys[i]?)) := by
  subst hn
  refine ⟨fun i _ hi q => ?_, fun _ q => ⟨xs, ys, q.1, q.2, by omega⟩, fun i H v H' _ q y => ?_⟩
  · have h1 : i < xs.length := by omega
    have h2 : i < ys.length := by omega
    exact ⟨xs, ys, xs[i], ys[i], q.1, q.2, by simp [h1], by simp [h2]⟩
  · obtain ⟨T, x, z, h1, h2, h3, h4, h5⟩ := y
    exact ⟨T, x, z, h1, h2, h3, h4 xs q.1, h5 ys q.2⟩

/-! ### within a list or a tuple, at any depth -/
/-- < of truths, beside that of numbers and that of texts -/
def rLtB : R2 := fun x y H Q => ∃ a b, x = .bl a ∧ y = .bl b ∧ Q (.bl (decide (b2i a < b2i b))) H
def rLtAny : R2 := fun x y H Q => rI0 (fun i j => .bl (decide (i < j))) x y H Q ∨ ((∃ i j, x = .str i ∧ y = .str j ∧ Q (.bl (decide (i.cps.toList < j.cps.toList))) H) ∨ rLtB x y H Q)
section
variable {X : Cx}
theorem op_lt_bl : OpR X (compareOp .Lt) rLtB := by
  intro pins s σ H x y v u Q I rx ry h
  obtain ⟨a, b, rfl, rfl, q⟩ := h
  cases rx
  cases ry
  exact lt_bool ⟨.bl _, H, I, rfl, q⟩
theorem op_lt_any : OpR X (compareOp .Lt) rLtAny := op_lt.or (op_lt_str.or op_lt_bl)
theorem shaped_tl {ds : List PyData} : SeqAt.shaped (.tuple ds) = SeqAt.shaped (.list ds) := by
  unfold SeqAt.shaped
  simp only [PyData.canLay0, PyData.depth]
  rfl
def rInS2 (K : PySem.W.Frag) : R2 := fun x y H Q => ∃ d ds, Dp K H x d ∧ (Dp K H y (.list ds) ∨ Dp K H y (.tuple ds)) ∧ SeqAt.shaped d = true ∧ SeqAt.shaped (.list ds) = true ∧ Q (.bl (ds.any fun z => PyData.eqv z d)) H
def rNotInS2 (K : PySem.W.Frag) : R2 := fun x y H Q => ∃ d ds, Dp K H x d ∧ (Dp K H y (.list ds) ∨ Dp K H y (.tuple ds)) ∧ SeqAt.shaped d = true ∧ SeqAt.shaped (.list ds) = true ∧ Q (.bl (!ds.any fun z => PyData.eqv z d)) H
theorem op_inS2 (hu : X.A.units + 65 < cLine) : OpR X (compareOp .In) (rInS2 X.K) := by
  intro pins s σ H x y v u Q I rx ry h
  obtain ⟨d, ds, hd, he | he, sd, se, q⟩ := h
  · obtain ⟨as, r1⟩ := Dp.reads I d x v hd rx
    obtain ⟨bs, r2⟩ := Dp.reads I (.list ds) y u he ry
    exact SeqAt.in_list_reads r2 r1 (SeqAt.canLay_of_shaped se) (SeqAt.canLay_of_shaped sd) (room_in_shaped sd hu) ⟨.bl _, H, I, rfl, q⟩
  · obtain ⟨as, r1⟩ := Dp.reads I d x v hd rx
    obtain ⟨bs, r2⟩ := Dp.reads I (.tuple ds) y u he ry
    exact SeqAt.in_tuple_reads r2 r1 (SeqAt.canLay_of_shaped (shaped_tl.trans se)) (SeqAt.canLay_of_shaped sd) (room_in_shaped sd hu) ⟨.bl _, H, I, rfl, q⟩
theorem op_notInS2 (hu : X.A.units + 65 < cLine) : OpR X (compareOp .NotIn) (rNotInS2 X.K) := by
  intro pins s σ H x y v u Q I rx ry h
  obtain ⟨d, ds, hd, he | he, sd, se, q⟩ := h
  · obtain ⟨as, r1⟩ := Dp.reads I d x v hd rx
    obtain ⟨bs, r2⟩ := Dp.reads I (.list ds) y u he ry
    exact SeqAt.notIn_list_reads r2 r1 (SeqAt.canLay_of_shaped se) (SeqAt.canLay_of_shaped sd) (room_in_shaped sd hu) ⟨.bl _, H, I, rfl, q⟩
  · obtain ⟨as, r1⟩ := Dp.reads I d x v hd rx
    obtain ⟨bs, r2⟩ := Dp.reads I (.tuple ds) y u he ry
    exact SeqAt.notIn_tuple_reads r2 r1 (SeqAt.canLay_of_shaped (shaped_tl.trans se)) (SeqAt.canLay_of_shaped sd) (room_in_shaped sd hu) ⟨.bl _, H, I, rfl, q⟩
end
end FF
set_option Elab.async false
set_option linter.all false
set_option maxRecDepth 100000
set_option maxHeartbeats 4000000
/-! further rules: a list grown by a tuple; a text some times; the list of a dict's values -/
namespace FF
open PySem PySem.Spec PyProof.Rows L2
open AutoSeq1 (wpAny_loadPart' idx_int)

theorem grow_by_tuple (l : Addr) (items : Array Value) (n : Nat) (b : Addr) (items2 : Array Value) (n2 : Nat) (dct : Option Addr) (sl : Array (Option Value)) (hs0 : ¬(!items.isEmpty && Builtin.List.listTooLong (items.size + items2.size)) = true)
    (hs1 : items.size ≤ sizeLine) (hs2 : items.size + items2.size ≤ sizeLine + 1) :
    Meets (Builtin.«list.extend» ⟨[.ref l, .ref b], []⟩) (fun _ R s => s.heap.get? l = some { cls := .type "list", dict := none, data := .seq items n, slots := #[] } ∧
      s.heap.get? b = some { cls := .type "tuple", dict := dct, data := .seq items2 n2, slots := sl } ∧ R (.ok (.ret Value.none)) { s with heap := s.heap.update l (Obj.mapSeq fun x => x ++ items2), toks := s.toks }) :=
  .of_wp fun prog w A R s h => by
    obtain ⟨hp, g, d, tk, os⟩ := s
    obtain ⟨hl, hb, h⟩ := h
    have f1 := idx_int
    have f2 := sub_tuple_tuple
    have f3 := sub_list_list
    have f4 := sub_tuple_list
    have f5 := sub_list_tuple
    have hz' : (items ++ items2).size ≤ sizeLine + 1 := by rw [Array.size_append]; exact hs2
    wp_walk using (wpAny_updateSeq hl rfl (hz := hs1) (_hz' := hz')), wpAny_loadPart' hl, wpAny_loadPart' hb
    exact ⟨_, rfl, h⟩

section
variable {X : Cx}
def rExtT (K : PySem.W.Frag) : V → List V → Hp → VK → Prop := fun x vs H Q => ∃ l b xs zs, x = .ref l ∧ vs = [.ref b] ∧ H l = some (.lst xs) ∧ SqT K H b zs ∧ xs.length + zs.length ≤ 10000000 ∧ Q .non (upd H l (.lst (xs ++ zs)))
theorem mt_extendT : MtR X "list.extend" (rExtT X.K) := by
  intro pins s σ H x vs v us Q I rx rv h
  obtain ⟨l, b, xs, zs, rfl, rfl, hH, hB, hz, q⟩ := h
  cases rx
  obtain ⟨u, rfl, ru⟩ := rv.one
  cases ru
  have hzz : 10000000 ≤ sizeLine := by decide
  obtain ⟨z, its, n, r, hl, e⟩ := I.lstM hH
  obtain ⟨its2, r2, hB2, hz2⟩ := I.tuple hB
  obtain ⟨⟨c2, dct, dt, sl⟩, e2, hc2, n2, hd2⟩ := hB2
  replace hc2 : c2 = .type "tuple" := hc2
  replace hd2 : dt = .seq its2.toArray n2 := hd2
  subst hc2 hd2
  have hl1 := r.length
  have hl2 := r2.length
  have hsz : its.toArray.size + its2.toArray.size ≤ sizeLine := by rw [List.size_toArray, List.size_toArray]; omega
  have hlong : ¬ (!its.toArray.isEmpty && Builtin.List.listTooLong (its.toArray.size + its2.toArray.size)) = true := by
    rw [notLongL hsz, Bool.and_false]
    exact Bool.false_ne_true
  refine call_meets F.slot_list_extend ⟨_, e, rfl⟩ F.entry_list_extend (F.args_list_extend_2 _ _)
    (grow_by_tuple l its.toArray n b its2.toArray n2 dct sl hlong (by rw [List.size_toArray]; omega) (by omega)) ⟨e, e2, ?_⟩
  refine ⟨.non, _, I.lset (its' := its ++ its2) hH e (by simp) (r.append r2) ?_, rfl, q⟩
  rw [List.length_append]
  omega
/-- "k" * n -/
def rMulS : R2 := fun x y H Q => ∃ (c : Nat) (n : Int), x = .str ⟨#[c]⟩ ∧ y = .int n ∧ n ≤ 1000 ∧ -1000 ≤ n ∧ Q (.str ⟨(List.replicate n.toNat c).toArray⟩) H
theorem mul_one (c : Nat) : ∀ n : Nat, (List.replicate n (#[c] : Array Nat)).foldl (· ++ ·) #[] = (List.replicate n c).toArray := by
  have key : ∀ (n : Nat) (a : List Nat), (List.replicate n (#[c] : Array Nat)).foldl (· ++ ·) a.toArray = (a ++ List.replicate n c).toArray := by
    intro n
    induction n with
    | zero => intro a; simp
    | succ n ih =>
      intro a
      rw [List.replicate_succ, List.foldl_cons]
      have e : a.toArray ++ #[c] = (a ++ [c]).toArray := by simp
      rw [e, ih (a ++ [c])]
      simp [List.replicate_succ]
  intro n
  have := key n []
  simpa using this
theorem mulS_is (c : Nat) (n : Int) : Txt.mul ⟨#[c]⟩ n = ⟨(List.replicate n.toNat c).toArray⟩ := by
  unfold Txt.mul
  by_cases h : n < 1
  · rw [if_pos h]
    have : n.toNat = 0 := by omega
    rw [this]
    rfl
  · rw [if_neg h]
    by_cases h1 : n = 1
    · subst h1
      simp
    · have e : (n == 1 || (⟨#[c]⟩ : Str).length == 0) = false := by
        simp [h1, Str.length]
      rw [e]
      simp only [Bool.false_eq_true, if_false]
      rw [mul_one]
theorem op_mulS : OpR X (binaryOp .Mult) rMulS := by
  intro pins s σ H x y v u Q I rx ry h
  obtain ⟨c, n, rfl, rfl, h1, h2, q⟩ := h
  obtain ⟨t, rfl⟩ := rx
  obtain ⟨t', rfl⟩ := ry
  refine SB.mul ⟨?_, fun h0 _ => ?_, fun h0 _ => ?_⟩ fun t2 k => ⟨.str _, H, I.tok _, ⟨_, rfl⟩, ?_⟩
  · simp only [Bool.or_eq_false_iff, decide_eq_false_iff_not]
    omega
  · have e : ((⟨#[c]⟩ : Str).length : Int) = 1 := rfl
    rw [e]
    have hp : 0 < n := by omega
    have : (1 : Int) ≤ (2 ^ 63 - 1) / n := by
      rw [Int.le_ediv_iff_mul_le hp]
      omega
    omega
  · have e : (⟨#[c]⟩ : Str).length = 1 := rfl
    rw [e, Nat.one_mul]
    have : n.toNat ≤ 1000 := by omega
    unfold Builtin.Str.tooLong
    have hs : (1000 : Nat) ≤ sizeLine := by decide
    simp only [decide_eq_false_iff_not]
    omega
  · rw [mulS_is]
    exact q
end

/-! list(d.values()) -/
section
variable {X : Cx} {e : Expr} {te : TE} {p pos apos cpos : Pos}
def tListVals (te : TE) : TE := fun σ H Q => te σ H fun x H1 => ∃ (d : Addr) (kvs : List (Key × V)), x = .ref d ∧ H1 d = some (.dK kvs) ∧ ∀ D, H1 D = none → Q (.ref D) (upd H1 D (.lst (kvs.map (·.2))))
theorem vals_of_kv : ∀ {kvs : List (Key × V)} {vs : List (Key × Value)}, KV kvs vs → Vals (kvs.map (·.2)) (vs.map (·.2))
  | _, _, .nil => .nil
  | _, _, .cons h t => .cons h.2 (vals_of_kv t)
theorem list_of_at {vs : List (Key × Value)} {acc : Array Value} (h1 : acc.size = vs.length) (h2 : ∀ (i : Nat) (v : Value), acc[i]? = some v → ∃ k, vs[i]? = some (k, v)) : acc.toList = vs.map (·.2) := by
  apply List.ext_getElem?
  intro i
  rw [List.getElem?_map]
  by_cases hi : i < acc.size
  · obtain ⟨k, hk⟩ := h2 i acc[i] (by simp [hi])
    rw [hk]
    simp [hi]
  · rw [List.getElem?_eq_none (by simpa using hi), List.getElem?_eq_none (by omega)]
    rfl
theorem pe_listVals (hc : X.calm = true) (he : PE X e te) (hg : Gl X "list") (hm : X.mg "list" = none) (hv : bootBuiltins "list" = some (.type "list")) (hbase : attributeBase e "values" X.env (eval e X.env) = eval e X.env := by rfl) (hline : (apos.endLine == cpos.line) = true := by rfl)
    (hs : starEach [.Call (.Attribute e "values" apos) [] [] cpos] X.env = (false, eval (.Call (.Attribute e "values" apos) [] [] cpos) X.env) :: starEach [] X.env := by rfl) :
    PE X (.Call (.Name "list" p) [.Call (.Attribute e "values" apos) [] [] cpos] [] pos) (tListVals te) := by
  refine ⟨fun pins s σ H Q I hq => ?_⟩
  refine wpAny_Call_Name_kw (ld_blt I hg hm hv ?_)
  refine PyProof.Rows.callWith_type1 ?_ hs rfl
  rw [hs]
  show wpAny _ _ (spliced ((false, eval (.Call (.Attribute e "values" apos) [] [] cpos) X.env) :: backTo pos (starEach [] X.env))) _ _ s
  refine Calls.spliced_cons ?_
  refine wpAny_Call_method (T := "dict") (id := "dict.values") hbase rfl hline PySem.F.plainAttrs_dict PySem.F.slot_dict_values PySem.F.type_dict_values (thn (he.run pins s σ H _ I hq) fun u s1 ⟨x, H1, I1, rx, d, kvs, ex, hd, q⟩ => ?_)
  subst ex
  obtain rfl : u = Value.ref d := rx
  obtain ⟨hz, hs0, vs, kv, hdo⟩ := I1.hok d _ hd
  obtain ⟨ep, hat⟩ := hdo.dictAt
  have lk : kvs.length = vs.length := Paired.length kv
  refine ⟨hdo.typeIs, hdo.mapOf.noDict, ?_⟩
  show wpAny _ _ (callWith cpos (.builtin "dict.values") [.ref d] [] []) _ X.xe s1
  refine method_meetsIn PySem.F.slot_dict_values PySem.F.entry_dict_values rfl (PySem.evalArgs_none ⟨rfl, hdo.typeIs, PySem.F.args_dict_values_1 _, _, meets_dict_values (mixKind X.prog X.w) d hs0, ⟨vs, hdo⟩, ?_⟩)
  refine Calls.spliced_nil ?_
  have hview : (s1.heap.push { cls := .type "dict_values", data := .fields #[.ref d] }).get? s1.heap.objs.size = some { cls := .type "dict_values", data := .fields #[.ref d] } := Heap.get?_push_size _ rfl
  have hsz1 : (s1.heap.push { cls := .type "dict_values", data := .fields #[.ref d] }).objs.size = s1.heap.objs.size + 1 := Heap.size_push ..
  refine PySem.W.kdl_call (PySem.W.kdl_values (knd := mixKind X.prog X.w) (kvs := vs) (ep := ep)) (I1.ok.hd hc) ⟨⟨_, hview, rfl, rfl⟩, hat.push _⟩ (by omega) fun h' tk acc c hk hS hacc => ?_
  have kp : ∀ b ob, s1.heap.get? b = some ob → h'.get? b = some ob := fun b ob q => hk b ob (Heap.get?_push_of_some _ q)
  have e1 : acc.toList = vs.map (·.2) := list_of_at (hacc.1.trans rfl) hacc.2
  have lm : (kvs.map (·.2)).length ≤ sizeLine := by rw [List.length_map]; exact hz
  have ge : s1.heap.objs.size ≤ (s1.heap.push { cls := .type "dict_values", data := .fields #[.ref d] }).objs.size := by rw [hsz1]; exact Nat.le_succ _
  have ob : ObjOk X.prog X.w (upd H1 (s1.heap.push { cls := .type "dict_values", data := .fields #[.ref d] }).objs.size (.lst (kvs.map (·.2)))) h' (s1.heap.push { cls := .type "dict_values", data := .fields #[.ref d] }).objs.size (.lst (kvs.map (·.2))) :=
    ⟨lm, vs.map (·.2), c, vals_of_kv kv, by rw [← e1, Array.toArray_toList]; exact hS⟩
  exact ⟨.ref _, _, I1.laid (t' := tk) kp ge ob, rfl, q _ (I1.hok.fresh ge)⟩
end
end FF
set_option Elab.async false
set_option linter.all false
set_option maxRecDepth 100000
set_option maxHeartbeats 4000000

/-! the text by places; what the top leaves, by names -/
namespace FF
open PySem PySem.Spec PyProof.Rows L2
def topS (i : Nat) : Stmt := PySem.Challenge.pw_farfacts_k48_slices_decide_alike.main.body.getD i (.Pass ⟨0, 0, 0, 0⟩)
abbrev s_is_name : Stmt := topS 7
abbrev N_is_name : List Str := ["text", "sign"]
theorem sc_is_name : FnScope N_is_name ["text"] (defScope s_is_name) := ⟨rfl, rfl, rfl, by decide +kernel, rfl, by decide +kernel, by decide +kernel⟩
abbrev s_is_uid : Stmt := topS 8
abbrev N_is_uid : List Str := ["text", "parts"]
theorem sc_is_uid : FnScope N_is_uid ["text"] (defScope s_is_uid) := ⟨rfl, rfl, rfl, by decide +kernel, rfl, by decide +kernel, by decide +kernel⟩
abbrev s_kind_of : Stmt := topS 9
abbrev N_kind_of : List Str := ["uid"]
theorem sc_kind_of : FnScope N_kind_of ["uid"] (defScope s_kind_of) := ⟨rfl, rfl, rfl, by decide +kernel, rfl, by decide +kernel, by decide +kernel⟩
abbrev s_check_uid : Stmt := topS 10
abbrev N_check_uid : List Str := ["text", "what"]
theorem sc_check_uid : FnScope N_check_uid ["text", "what"] (defScope s_check_uid) := ⟨rfl, rfl, rfl, by decide +kernel, rfl, by decide +kernel, by decide +kernel⟩
abbrev s_is_rising : Stmt := topS 11
abbrev N_is_rising : List Str := ["texts", "one", "other"]
theorem sc_is_rising : FnScope N_is_rising ["texts"] (defScope s_is_rising) := ⟨rfl, rfl, rfl, by decide +kernel, rfl, by decide +kernel, by decide +kernel⟩
abbrev s_is_text : Stmt := topS 18
abbrev N_is_text : List Str := ["text", "sign"]
theorem sc_is_text : FnScope N_is_text ["text"] (defScope s_is_text) := ⟨rfl, rfl, rfl, by decide +kernel, rfl, by decide +kernel, by decide +kernel⟩
abbrev s_is_scalar : Stmt := topS 19
abbrev N_is_scalar : List Str := ["value"]
theorem sc_is_scalar : FnScope N_is_scalar ["value"] (defScope s_is_scalar) := ⟨rfl, rfl, rfl, by decide +kernel, rfl, by decide +kernel, by decide +kernel⟩
abbrev s_scalar_before : Stmt := topS 20
abbrev N_scalar_before : List Str := ["one", "two"]
theorem sc_scalar_before : FnScope N_scalar_before ["one", "two"] (defScope s_scalar_before) := ⟨rfl, rfl, rfl, by decide +kernel, rfl, by decide +kernel, by decide +kernel⟩
abbrev s_is_value : Stmt := topS 21
abbrev N_is_value : List Str := ["value", "item", "one", "other"]
theorem sc_is_value : FnScope N_is_value ["value"] (defScope s_is_value) := ⟨rfl, rfl, rfl, by decide +kernel, rfl, by decide +kernel, by decide +kernel⟩
abbrev s_are_named : Stmt := topS 23
abbrev N_are_named : List Str := ["pairs", "most", "name", "value", "_"]
theorem sc_are_named : FnScope N_are_named ["pairs", "most"] (defScope s_are_named) := ⟨rfl, rfl, rfl, by decide +kernel, rfl, by decide +kernel, by decide +kernel⟩
abbrev s_value_named : Stmt := topS 24
abbrev N_value_named : List Str := ["pairs", "name", "told", "value"]
theorem sc_value_named : FnScope N_value_named ["pairs", "name"] (defScope s_value_named) := ⟨rfl, rfl, rfl, by decide +kernel, rfl, by decide +kernel, by decide +kernel⟩
abbrev s_context_value : Stmt := topS 25
abbrev N_context_value : List Str := ["request", "name"]
theorem sc_context_value : FnScope N_context_value ["request", "name"] (defScope s_context_value) := ⟨rfl, rfl, rfl, by decide +kernel, rfl, by decide +kernel, by decide +kernel⟩
abbrev s_check_parents : Stmt := topS 30
abbrev N_check_parents : List Str := ["parents", "uid"]
theorem sc_check_parents : FnScope N_check_parents ["parents"] (defScope s_check_parents) := ⟨rfl, rfl, rfl, by decide +kernel, rfl, by decide +kernel, by decide +kernel⟩
abbrev s_check_entity : Stmt := topS 31
abbrev N_check_entity : List Str := ["entity", "uid", "attributes", "parents"]
theorem sc_check_entity : FnScope N_check_entity ["entity"] (defScope s_check_entity) := ⟨rfl, rfl, rfl, by decide +kernel, rfl, by decide +kernel, by decide +kernel⟩
abbrev s_Database___init__ : Stmt := inClass (topS 32) 0
abbrev N_Database___init__ : List Str := ["self", "entities", "table", "entity", "uid"]
theorem sc_Database___init__ : FnScope N_Database___init__ ["self", "entities"] (defScope s_Database___init__) := ⟨rfl, rfl, rfl, by decide +kernel, rfl, by decide +kernel, by decide +kernel⟩
abbrev s_Database_entities : Stmt := inClass (topS 32) 1
abbrev N_Database_entities : List Str := ["self"]
theorem sc_Database_entities : FnScope N_Database_entities ["self"] (defScope s_Database_entities) := ⟨rfl, rfl, rfl, by decide +kernel, rfl, by decide +kernel, by decide +kernel⟩
abbrev s_Database_many : Stmt := inClass (topS 32) 2
abbrev N_Database_many : List Str := ["self"]
theorem sc_Database_many : FnScope N_Database_many ["self"] (defScope s_Database_many) := ⟨rfl, rfl, rfl, by decide +kernel, rfl, by decide +kernel, by decide +kernel⟩
abbrev s_Database_attribute : Stmt := inClass (topS 32) 4
abbrev N_Database_attribute : List Str := ["self", "uid", "name"]
theorem sc_Database_attribute : FnScope N_Database_attribute ["self", "uid", "name"] (defScope s_Database_attribute) := ⟨rfl, rfl, rfl, by decide +kernel, rfl, by decide +kernel, by decide +kernel⟩
abbrev s_Database_parents : Stmt := inClass (topS 32) 5
abbrev N_Database_parents : List Str := ["self", "uid"]
theorem sc_Database_parents : FnScope N_Database_parents ["self", "uid"] (defScope s_Database_parents) := ⟨rfl, rfl, rfl, by decide +kernel, rfl, by decide +kernel, by decide +kernel⟩
abbrev s_Database_ancestors : Stmt := inClass (topS 32) 6
abbrev N_Database_ancestors : List Str := ["self", "uid", "found", "looked", "parent"]
theorem sc_Database_ancestors : FnScope N_Database_ancestors ["self", "uid"] (defScope s_Database_ancestors) := ⟨rfl, rfl, rfl, by decide +kernel, rfl, by decide +kernel, by decide +kernel⟩
abbrev s_Database_tell : Stmt := inClass (topS 32) 8
abbrev N_Database_tell : List Str := ["self", "read", "value"]
theorem sc_Database_tell : FnScope N_Database_tell ["self", "read"] (defScope s_Database_tell) := ⟨rfl, rfl, rfl, by decide +kernel, rfl, by decide +kernel, by decide +kernel⟩
abbrev s_operands : Stmt := topS 36
abbrev N_operands : List Str := ["node"]
theorem sc_operands : FnScope N_operands ["node"] (defScope s_operands) := ⟨rfl, rfl, rfl, by decide +kernel, rfl, by decide +kernel, by decide +kernel⟩
abbrev s_starts : Stmt := topS 37
abbrev N_starts : List Str := ["expression", "places", "at", "node", "parts"]
theorem sc_starts : FnScope N_starts ["expression"] (defScope s_starts) := ⟨rfl, rfl, rfl, by decide +kernel, rfl, by decide +kernel, by decide +kernel⟩
abbrev s_join_reads : Stmt := topS 46
abbrev N_join_reads : List Str := ["one", "two", "joined", "read"]
theorem sc_join_reads : FnScope N_join_reads ["one", "two"] (defScope s_join_reads) := ⟨rfl, rfl, rfl, by decide +kernel, rfl, by decide +kernel, by decide +kernel⟩
abbrev s_truth : Stmt := topS 47
abbrev N_truth : List Str := ["answer"]
theorem sc_truth : FnScope N_truth ["answer"] (defScope s_truth) := ⟨rfl, rfl, rfl, by decide +kernel, rfl, by decide +kernel, by decide +kernel⟩
abbrev s_ask : Stmt := topS 48
abbrev N_ask : List Str := ["source", "read", "reads", "told"]
theorem sc_ask : FnScope N_ask ["source", "read", "reads"] (defScope s_ask) := ⟨rfl, rfl, rfl, by decide +kernel, rfl, by decide +kernel, by decide +kernel⟩
abbrev s_leaf : Stmt := topS 49
abbrev N_leaf : List Str := ["node", "request", "value"]
theorem sc_leaf : FnScope N_leaf ["node", "request"] (defScope s_leaf) := ⟨rfl, rfl, rfl, by decide +kernel, rfl, by decide +kernel, by decide +kernel⟩
abbrev s_attribute : Stmt := topS 50
abbrev N_attribute : List Str := ["node", "value", "source", "reads", "read", "told"]
theorem sc_attribute : FnScope N_attribute ["node", "value", "source", "reads"] (defScope s_attribute) := ⟨rfl, rfl, rfl, by decide +kernel, rfl, by decide +kernel, by decide +kernel⟩
abbrev s_one : Stmt := topS 51
abbrev N_one : List Str := ["node", "value", "source", "reads"]
theorem sc_one : FnScope N_one ["node", "value", "source", "reads"] (defScope s_one) := ⟨rfl, rfl, rfl, by decide +kernel, rfl, by decide +kernel, by decide +kernel⟩
abbrev s_uids : Stmt := topS 52
abbrev N_uids : List Str := ["value", "item"]
theorem sc_uids : FnScope N_uids ["value"] (defScope s_uids) := ⟨rfl, rfl, rfl, by decide +kernel, rfl, by decide +kernel, by decide +kernel⟩
abbrev s_within : Stmt := topS 53
abbrev N_within : List Str := ["one", "two", "source", "reads", "uids", "read", "told", "uid"]
theorem sc_within : FnScope N_within ["one", "two", "source", "reads"] (defScope s_within) := ⟨rfl, rfl, rfl, by decide +kernel, rfl, by decide +kernel, by decide +kernel⟩
abbrev s_two : Stmt := topS 54
abbrev N_two : List Str := ["node", "one", "two", "source", "reads", "word"]
theorem sc_two : FnScope N_two ["node", "one", "two", "source", "reads"] (defScope s_two) := ⟨rfl, rfl, rfl, by decide +kernel, rfl, by decide +kernel, by decide +kernel⟩
abbrev s_roles : Stmt := topS 55
abbrev N_roles : List Str := ["expression", "roles", "place", "node", "number", "operand"]
theorem sc_roles : FnScope N_roles ["expression"] (defScope s_roles) := ⟨rfl, rfl, rfl, by decide +kernel, rfl, by decide +kernel, by decide +kernel⟩
abbrev s_is_passed_on : Stmt := topS 56
abbrev N_is_passed_on : List Str := ["word", "number", "value"]
theorem sc_is_passed_on : FnScope N_is_passed_on ["word", "number", "value"] (defScope s_is_passed_on) := ⟨rfl, rfl, rfl, by decide +kernel, rfl, by decide +kernel, by decide +kernel⟩
abbrev s_Walk___init__ : Stmt := inClass (topS 57) 0
abbrev N_Walk___init__ : List Str := ["self", "expression", "request", "source"]
theorem sc_Walk___init__ : FnScope N_Walk___init__ ["self", "expression", "request", "source"] (defScope s_Walk___init__) := ⟨rfl, rfl, rfl, by decide +kernel, rfl, by decide +kernel, by decide +kernel⟩
abbrev s_Walk__outcome : Stmt := inClass (topS 57) 1
abbrev N_Walk__outcome : List Str := ["self", "at", "node", "values", "place"]
theorem sc_Walk__outcome : FnScope N_Walk__outcome ["self", "at"] (defScope s_Walk__outcome) := ⟨rfl, rfl, rfl, by decide +kernel, rfl, by decide +kernel, by decide +kernel⟩
abbrev s_Walk__settle : Stmt := inClass (topS 57) 2
abbrev N_Walk__settle : List Str := ["self", "at", "place", "number", "word", "value"]
theorem sc_Walk__settle : FnScope N_Walk__settle ["self", "at"] (defScope s_Walk__settle) := ⟨rfl, rfl, rfl, by decide +kernel, rfl, by decide +kernel, by decide +kernel⟩
abbrev s_Walk__behind : Stmt := inClass (topS 57) 3
abbrev N_Walk__behind : List Str := ["self", "at", "place", "number", "node"]
theorem sc_Walk__behind : FnScope N_Walk__behind ["self", "at"] (defScope s_Walk__behind) := ⟨rfl, rfl, rfl, by decide +kernel, rfl, by decide +kernel, by decide +kernel⟩
abbrev s_Walk_run : Stmt := inClass (topS 57) 4
abbrev N_Walk_run : List Str := ["self", "at", "outcome", "settled"]
theorem sc_Walk_run : FnScope N_Walk_run ["self"] (defScope s_Walk_run) := ⟨rfl, rfl, rfl, by decide +kernel, rfl, by decide +kernel, by decide +kernel⟩
abbrev s_evaluate : Stmt := topS 58
abbrev N_evaluate : List Str := ["expression", "request", "source", "walk", "outcome"]
theorem sc_evaluate : FnScope N_evaluate ["expression", "request", "source"] (defScope s_evaluate) := ⟨rfl, rfl, rfl, by decide +kernel, rfl, by decide +kernel, by decide +kernel⟩
abbrev s_split_path : Stmt := topS 61
abbrev N_split_path : List Str := ["path", "parts"]
theorem sc_split_path : FnScope N_split_path ["path"] (defScope s_split_path) := ⟨rfl, rfl, rfl, by decide +kernel, rfl, by decide +kernel, by decide +kernel⟩
abbrev s_extended : Stmt := topS 62
abbrev N_extended : List Str := ["paths", "name", "path"]
theorem sc_extended : FnScope N_extended ["paths", "name"] (defScope s_extended) := ⟨rfl, rfl, rfl, by decide +kernel, rfl, by decide +kernel, by decide +kernel⟩
abbrev s_paths_of : Stmt := topS 63
abbrev N_paths_of : List Str := ["node", "known"]
theorem sc_paths_of : FnScope N_paths_of ["node", "known"] (defScope s_paths_of) := ⟨rfl, rfl, rfl, by decide +kernel, rfl, by decide +kernel, by decide +kernel⟩
abbrev s_node_paths : Stmt := topS 64
abbrev N_node_paths : List Str := ["expression", "known", "node"]
theorem sc_node_paths : FnScope N_node_paths ["expression"] (defScope s_node_paths) := ⟨rfl, rfl, rfl, by decide +kernel, rfl, by decide +kernel, by decide +kernel⟩
abbrev s_expression_manifest : Stmt := topS 65
abbrev N_expression_manifest : List Str := ["expression", "known", "attributes", "ancestors", "node"]
theorem sc_expression_manifest : FnScope N_expression_manifest ["expression"] (defScope s_expression_manifest) := ⟨rfl, rfl, rfl, by decide +kernel, rfl, by decide +kernel, by decide +kernel⟩
abbrev s_root_uid : Stmt := topS 68
abbrev N_root_uid : List Str := ["root", "request", "value"]
theorem sc_root_uid : FnScope N_root_uid ["root", "request"] (defScope s_root_uid) := ⟨rfl, rfl, rfl, by decide +kernel, rfl, by decide +kernel, by decide +kernel⟩
abbrev s_follow : Stmt := topS 69
abbrev N_follow : List Str := ["root", "names", "request", "source", "uid", "name", "read", "told"]
theorem sc_follow : FnScope N_follow ["root", "names", "request", "source"] (defScope s_follow) := ⟨rfl, rfl, rfl, by decide +kernel, rfl, by decide +kernel, by decide +kernel⟩
abbrev s_ends : Stmt := topS 70
abbrev N_ends : List Str := ["manifest", "request", "source", "ends", "path", "root", "names", "led"]
theorem sc_ends : FnScope N_ends ["manifest", "request", "source"] (defScope s_ends) := ⟨rfl, rfl, rfl, by decide +kernel, rfl, by decide +kernel, by decide +kernel⟩
abbrev s_named_reads : Stmt := topS 71
abbrev N_named_reads : List Str := ["manifest", "request", "database", "read", "_"]
theorem sc_named_reads : FnScope N_named_reads ["manifest", "request", "database"] (defScope s_named_reads) := ⟨rfl, rfl, rfl, by decide +kernel, rfl, by decide +kernel, by decide +kernel⟩
abbrev s_hierarchy : Stmt := topS 73
abbrev N_hierarchy : List Str := ["database", "reads", "uids", "read"]
theorem sc_hierarchy : FnScope N_hierarchy ["database", "reads"] (defScope s_hierarchy) := ⟨rfl, rfl, rfl, by decide +kernel, rfl, by decide +kernel, by decide +kernel⟩
abbrev s_slice_of : Stmt := topS 74
abbrev N_slice_of : List Str := ["database", "request", "manifest", "reads", "hierarchy", "kept", "uid", "attributes", "parents", "names", "pairs", "read", "pair"]
theorem sc_slice_of : FnScope N_slice_of ["database", "request", "manifest"] (defScope s_slice_of) := ⟨rfl, rfl, rfl, by decide +kernel, rfl, by decide +kernel, by decide +kernel⟩
abbrev s_in_scope : Stmt := topS 77
abbrev N_in_scope : List Str := ["scope", "uid", "source", "read", "told"]
theorem sc_in_scope : FnScope N_in_scope ["scope", "uid", "source"] (defScope s_in_scope) := ⟨rfl, rfl, rfl, by decide +kernel, rfl, by decide +kernel, by decide +kernel⟩
abbrev s_condition_state : Stmt := topS 78
abbrev N_condition_state : List Str := ["outcome"]
theorem sc_condition_state : FnScope N_condition_state ["outcome"] (defScope s_condition_state) := ⟨rfl, rfl, rfl, by decide +kernel, rfl, by decide +kernel, by decide +kernel⟩
abbrev s_policy_state : Stmt := topS 79
abbrev N_policy_state : List Str := ["policy", "request", "source", "_", "principal", "actions", "resource", "condition", "reads", "scope", "uid", "outcome", "more"]
theorem sc_policy_state : FnScope N_policy_state ["policy", "request", "source"] (defScope s_policy_state) := ⟨rfl, rfl, rfl, by decide +kernel, rfl, by decide +kernel, by decide +kernel⟩
abbrev s_fits : Stmt := topS 80
abbrev N_fits : List Str := ["scope", "kind"]
theorem sc_fits : FnScope N_fits ["scope", "kind"] (defScope s_fits) := ⟨rfl, rfl, rfl, by decide +kernel, rfl, by decide +kernel, by decide +kernel⟩
abbrev s_can_apply : Stmt := topS 81
abbrev N_can_apply : List Str := ["policy", "kind", "principal", "action", "resource"]
theorem sc_can_apply : FnScope N_can_apply ["policy", "kind"] (defScope s_can_apply) := ⟨rfl, rfl, rfl, by decide +kernel, rfl, by decide +kernel, by decide +kernel⟩
abbrev s_decision : Stmt := topS 83
abbrev N_decision : List Str := ["states", "permits", "forbids", "failures", "policy", "state"]
theorem sc_decision : FnScope N_decision ["states"] (defScope s_decision) := ⟨rfl, rfl, rfl, by decide +kernel, rfl, by decide +kernel, by decide +kernel⟩
abbrev s_decide : Stmt := topS 84
abbrev N_decide : List Str := ["policies", "request", "source", "reads", "states", "policy", "state", "more"]
theorem sc_decide : FnScope N_decide ["policies", "request", "source"] (defScope s_decide) := ⟨rfl, rfl, rfl, by decide +kernel, rfl, by decide +kernel, by decide +kernel⟩
abbrev s_join_manifests : Stmt := topS 86
abbrev N_join_manifests : List Str := ["manifests", "attributes", "ancestors", "told"]
theorem sc_join_manifests : FnScope N_join_manifests ["manifests"] (defScope s_join_manifests) := ⟨rfl, rfl, rfl, by decide +kernel, rfl, by decide +kernel, by decide +kernel⟩
abbrev s_policy_manifest : Stmt := topS 87
abbrev N_policy_manifest : List Str := ["policy", "scopes"]
theorem sc_policy_manifest : FnScope N_policy_manifest ["policy"] (defScope s_policy_manifest) := ⟨rfl, rfl, rfl, by decide +kernel, rfl, by decide +kernel, by decide +kernel⟩
abbrev s_manifest : Stmt := topS 88
abbrev N_manifest : List Str := ["policies", "kind", "policy"]
theorem sc_manifest : FnScope N_manifest ["policies", "kind"] (defScope s_manifest) := ⟨rfl, rfl, rfl, by decide +kernel, rfl, by decide +kernel, by decide +kernel⟩
abbrev s_law_cell : Stmt := topS 90
abbrev N_law_cell : List Str := ["_law_script", "_law_k"]
theorem sc_law_cell : FnScope N_law_cell ["_law_script", "_law_k"] (defScope s_law_cell) := ⟨rfl, rfl, rfl, by decide +kernel, rfl, by decide +kernel, by decide +kernel⟩
abbrev s_law_digits : Stmt := topS 91
abbrev N_law_digits : List Str := ["_law_script", "_law_first", "_law_last", "_law_digits_here", "_law_k", "_law_cell_here", "_law_turn", "_law_seed"]
theorem sc_law_digits : FnScope N_law_digits ["_law_script", "_law_first", "_law_last"] (defScope s_law_digits) := ⟨rfl, rfl, rfl, by decide +kernel, rfl, by decide +kernel, by decide +kernel⟩
abbrev s_law_draw : Stmt := topS 92
abbrev N_law_draw : List Str := ["_law_box", "_law_many", "_law_at"]
theorem sc_law_draw : FnScope N_law_draw ["_law_box", "_law_many"] (defScope s_law_draw) := ⟨rfl, rfl, rfl, by decide +kernel, rfl, by decide +kernel, by decide +kernel⟩
abbrev s_law_name : Stmt := topS 93
abbrev N_law_name : List Str := ["_law_box", "_law_signs", "_law_kind", "_law_at", "_law_text_here", "_law_turn"]
theorem sc_law_name : FnScope N_law_name ["_law_box"] (defScope s_law_name) := ⟨rfl, rfl, rfl, by decide +kernel, rfl, by decide +kernel, by decide +kernel⟩
abbrev s_law_pool : Stmt := topS 94
abbrev N_law_pool : List Str := ["_law_box", "_law_many", "_law_names", "_law_turn", "_law_name_here"]
theorem sc_law_pool : FnScope N_law_pool ["_law_box", "_law_many"] (defScope s_law_pool) := ⟨rfl, rfl, rfl, by decide +kernel, rfl, by decide +kernel, by decide +kernel⟩
abbrev s_law_uids : Stmt := topS 95
abbrev N_law_uids : List Str := ["_law_box", "_law_many", "_law_kinds_here", "_law_uids_here", "_law_name_here"]
theorem sc_law_uids : FnScope N_law_uids ["_law_box", "_law_many"] (defScope s_law_uids) := ⟨rfl, rfl, rfl, by decide +kernel, rfl, by decide +kernel, by decide +kernel⟩
abbrev s_law_scope : Stmt := topS 96
abbrev N_law_scope : List Str := ["_law_box", "_law_uids_here", "_law_kinds_here", "_law_slots", "_law_kind", "_law_word"]
theorem sc_law_scope : FnScope N_law_scope ["_law_box", "_law_uids_here", "_law_kinds_here", "_law_slots"] (defScope s_law_scope) := ⟨rfl, rfl, rfl, by decide +kernel, rfl, by decide +kernel, by decide +kernel⟩
abbrev s_law_key : Stmt := topS 97
abbrev N_law_key : List Str := ["_law_scalar_here"]
theorem sc_law_key : FnScope N_law_key ["_law_scalar_here"] (defScope s_law_key) := ⟨rfl, rfl, rfl, by decide +kernel, rfl, by decide +kernel, by decide +kernel⟩
abbrev s_law_set : Stmt := topS 98
abbrev N_law_set : List Str := ["_law_scalars", "_law_most", "_law_rows", "_law_scalar_here"]
theorem sc_law_set : FnScope N_law_set ["_law_scalars", "_law_most"] (defScope s_law_set) := ⟨rfl, rfl, rfl, by decide +kernel, rfl, by decide +kernel, by decide +kernel⟩
abbrev s_law_number : Stmt := topS 99
abbrev N_law_number : List Str := ["_law_box", "_law_kind", "_law_size"]
theorem sc_law_number : FnScope N_law_number ["_law_box"] (defScope s_law_number) := ⟨rfl, rfl, rfl, by decide +kernel, rfl, by decide +kernel, by decide +kernel⟩
abbrev s_law_text : Stmt := topS 100
abbrev N_law_text : List Str := ["_law_box", "_law_signs", "_law_kind", "_law_size", "_law_at", "_law_text_here", "_law_turn"]
theorem sc_law_text : FnScope N_law_text ["_law_box"] (defScope s_law_text) := ⟨rfl, rfl, rfl, by decide +kernel, rfl, by decide +kernel, by decide +kernel⟩
abbrev s_law_scalar : Stmt := topS 101
abbrev N_law_scalar : List Str := ["_law_box", "_law_uids_here", "_law_kind"]
theorem sc_law_scalar : FnScope N_law_scalar ["_law_box", "_law_uids_here"] (defScope s_law_scalar) := ⟨rfl, rfl, rfl, by decide +kernel, rfl, by decide +kernel, by decide +kernel⟩
abbrev s_law_value : Stmt := topS 102
abbrev N_law_value : List Str := ["_law_box", "_law_uids_here", "_law_scalars", "_law_turn"]
theorem sc_law_value : FnScope N_law_value ["_law_box", "_law_uids_here"] (defScope s_law_value) := ⟨rfl, rfl, rfl, by decide +kernel, rfl, by decide +kernel, by decide +kernel⟩
abbrev s_law_leaf : Stmt := topS 103
abbrev N_law_leaf : List Str := ["_law_box", "_law_want", "_law_uids_here", "_law_names", "_law_kind", "_law_items", "_law_turn"]
theorem sc_law_leaf : FnScope N_law_leaf ["_law_box", "_law_want", "_law_uids_here", "_law_names"] (defScope s_law_leaf) := ⟨rfl, rfl, rfl, by decide +kernel, rfl, by decide +kernel, by decide +kernel⟩
abbrev s_law_pair : Stmt := topS 104
abbrev N_law_pair : List Str := ["_law_box", "_law_one", "_law_two"]
theorem sc_law_pair : FnScope N_law_pair ["_law_box", "_law_one", "_law_two"] (defScope s_law_pair) := ⟨rfl, rfl, rfl, by decide +kernel, rfl, by decide +kernel, by decide +kernel⟩
abbrev s_law_expression : Stmt := topS 105
abbrev N_law_expression : List Str := ["_law_box", "_law_uids_here", "_law_names", "_law_size", "_law_nodes", "_law_tops", "_law_wants", "_law_turn", "_law_step", "_law_want", "_law_kept", "_law_name_here", "_law_word", "_law_node"]
theorem sc_law_expression : FnScope N_law_expression ["_law_box", "_law_uids_here", "_law_names", "_law_size"] (defScope s_law_expression) := ⟨rfl, rfl, rfl, by decide +kernel, rfl, by decide +kernel, by decide +kernel⟩
abbrev s_law_kinds : Stmt := topS 106
abbrev N_law_kinds : List Str := ["_law_uids_here", "_law_kinds_here", "_law_uid"]
theorem sc_law_kinds : FnScope N_law_kinds ["_law_uids_here"] (defScope s_law_kinds) := ⟨rfl, rfl, rfl, by decide +kernel, rfl, by decide +kernel, by decide +kernel⟩
abbrev s_law_policy : Stmt := topS 107
abbrev N_law_policy : List Str := ["_law_box", "_law_name_here", "_law_uids_here", "_law_names", "_law_slots", "_law_size", "_law_actions", "_law_rows", "_law_turn", "_law_uid", "_law_effect", "_law_kinds_here", "_law_one", "_law_two"]
theorem sc_law_policy : FnScope N_law_policy ["_law_box", "_law_name_here", "_law_uids_here", "_law_names", "_law_slots", "_law_size"] (defScope s_law_policy) := ⟨rfl, rfl, rfl, by decide +kernel, rfl, by decide +kernel, by decide +kernel⟩
abbrev s_law_policies : Stmt := topS 108
abbrev N_law_policies : List Str := ["_law_box", "_law_uids_here", "_law_names", "_law_many", "_law_size", "_law_policies_here", "_law_name_here", "_law_policy_here"]
theorem sc_law_policies : FnScope N_law_policies ["_law_box", "_law_uids_here", "_law_names", "_law_many", "_law_size"] (defScope s_law_policies) := ⟨rfl, rfl, rfl, by decide +kernel, rfl, by decide +kernel, by decide +kernel⟩
abbrev s_law_entities : Stmt := topS 109
abbrev N_law_entities : List Str := ["_law_box", "_law_uids_here", "_law_names", "_law_rows", "_law_uid", "_law_pairs", "_law_name_here", "_law_value_here", "_law_parents", "_law_other"]
theorem sc_law_entities : FnScope N_law_entities ["_law_box", "_law_uids_here", "_law_names"] (defScope s_law_entities) := ⟨rfl, rfl, rfl, by decide +kernel, rfl, by decide +kernel, by decide +kernel⟩
abbrev s_law_request : Stmt := topS 110
abbrev N_law_request : List Str := ["_law_box", "_law_uids_here", "_law_names", "_law_pairs", "_law_name_here", "_law_parts", "_law_k"]
theorem sc_law_request : FnScope N_law_request ["_law_box", "_law_uids_here", "_law_names"] (defScope s_law_request) := ⟨rfl, rfl, rfl, by decide +kernel, rfl, by decide +kernel, by decide +kernel⟩
abbrev s_law_alike : Stmt := topS 111
abbrev N_law_alike : List Str := ["_law_one", "_law_two"]
theorem sc_law_alike : FnScope N_law_alike ["_law_one", "_law_two"] (defScope s_law_alike) := ⟨rfl, rfl, rfl, by decide +kernel, rfl, by decide +kernel, by decide +kernel⟩
abbrev s_law : Stmt := topS 112
abbrev N_law : List Str := ["_law_script", "_law_box", "_law_uids_here", "_law_names", "_law_policies_here", "_law_turn", "_law_database", "_law_request_here", "_law_kind", "_law_part", "_law_kept", "_law_policy_here"]
theorem sc_law : FnScope N_law ["_law_script"] (defScope s_law) := ⟨rfl, rfl, rfl, by decide +kernel, rfl, by decide +kernel, by decide +kernel⟩
def d_is_name : He.DefD := ⟨("is_name", none), "is_name", "is_name", defArgs s_is_name, defBody s_is_name, defScope s_is_name, [], []⟩
def d_is_uid : He.DefD := ⟨("is_uid", none), "is_uid", "is_uid", defArgs s_is_uid, defBody s_is_uid, defScope s_is_uid, [], []⟩
def d_kind_of : He.DefD := ⟨("kind_of", none), "kind_of", "kind_of", defArgs s_kind_of, defBody s_kind_of, defScope s_kind_of, [], []⟩
def d_check_uid : He.DefD := ⟨("check_uid", none), "check_uid", "check_uid", defArgs s_check_uid, defBody s_check_uid, defScope s_check_uid, [.str "uid"], []⟩
def d_is_rising : He.DefD := ⟨("is_rising", none), "is_rising", "is_rising", defArgs s_is_rising, defBody s_is_rising, defScope s_is_rising, [], []⟩
def d_is_text : He.DefD := ⟨("is_text", none), "is_text", "is_text", defArgs s_is_text, defBody s_is_text, defScope s_is_text, [], []⟩
def d_is_scalar : He.DefD := ⟨("is_scalar", none), "is_scalar", "is_scalar", defArgs s_is_scalar, defBody s_is_scalar, defScope s_is_scalar, [], []⟩
def d_scalar_before : He.DefD := ⟨("scalar_before", none), "scalar_before", "scalar_before", defArgs s_scalar_before, defBody s_scalar_before, defScope s_scalar_before, [], []⟩
def d_is_value : He.DefD := ⟨("is_value", none), "is_value", "is_value", defArgs s_is_value, defBody s_is_value, defScope s_is_value, [], []⟩
def d_are_named : He.DefD := ⟨("are_named", none), "are_named", "are_named", defArgs s_are_named, defBody s_are_named, defScope s_are_named, [], []⟩
def d_value_named : He.DefD := ⟨("value_named", none), "value_named", "value_named", defArgs s_value_named, defBody s_value_named, defScope s_value_named, [], []⟩
def d_context_value : He.DefD := ⟨("context_value", none), "context_value", "context_value", defArgs s_context_value, defBody s_context_value, defScope s_context_value, [], []⟩
def d_check_parents : He.DefD := ⟨("_check_parents", none), "_check_parents", "_check_parents", defArgs s_check_parents, defBody s_check_parents, defScope s_check_parents, [], []⟩
def d_check_entity : He.DefD := ⟨("check_entity", none), "check_entity", "check_entity", defArgs s_check_entity, defBody s_check_entity, defScope s_check_entity, [], []⟩
def d_Database___init__ : He.DefD := ⟨("Database", some "__init__"), "__init__", "Database.__init__", defArgs s_Database___init__, defBody s_Database___init__, defScope s_Database___init__, [], []⟩
def d_Database_entities : He.DefD := ⟨("Database", some "entities"), "entities", "Database.entities", defArgs s_Database_entities, defBody s_Database_entities, defScope s_Database_entities, [], []⟩
def d_Database_many : He.DefD := ⟨("Database", some "many"), "many", "Database.many", defArgs s_Database_many, defBody s_Database_many, defScope s_Database_many, [], []⟩
def d_Database_attribute : He.DefD := ⟨("Database", some "attribute"), "attribute", "Database.attribute", defArgs s_Database_attribute, defBody s_Database_attribute, defScope s_Database_attribute, [], []⟩
def d_Database_parents : He.DefD := ⟨("Database", some "parents"), "parents", "Database.parents", defArgs s_Database_parents, defBody s_Database_parents, defScope s_Database_parents, [], []⟩
def d_Database_ancestors : He.DefD := ⟨("Database", some "ancestors"), "ancestors", "Database.ancestors", defArgs s_Database_ancestors, defBody s_Database_ancestors, defScope s_Database_ancestors, [], []⟩
def d_Database_tell : He.DefD := ⟨("Database", some "tell"), "tell", "Database.tell", defArgs s_Database_tell, defBody s_Database_tell, defScope s_Database_tell, [], []⟩
def d_operands : He.DefD := ⟨("operands", none), "operands", "operands", defArgs s_operands, defBody s_operands, defScope s_operands, [], []⟩
def d_starts : He.DefD := ⟨("starts", none), "starts", "starts", defArgs s_starts, defBody s_starts, defScope s_starts, [], []⟩
def d_join_reads : He.DefD := ⟨("join_reads", none), "join_reads", "join_reads", defArgs s_join_reads, defBody s_join_reads, defScope s_join_reads, [], []⟩
def d_truth : He.DefD := ⟨("truth", none), "truth", "truth", defArgs s_truth, defBody s_truth, defScope s_truth, [], []⟩
def d_ask : He.DefD := ⟨("ask", none), "ask", "ask", defArgs s_ask, defBody s_ask, defScope s_ask, [], []⟩
def d_leaf : He.DefD := ⟨("_leaf", none), "_leaf", "_leaf", defArgs s_leaf, defBody s_leaf, defScope s_leaf, [], []⟩
def d_attribute : He.DefD := ⟨("_attribute", none), "_attribute", "_attribute", defArgs s_attribute, defBody s_attribute, defScope s_attribute, [], []⟩
def d_one : He.DefD := ⟨("_one", none), "_one", "_one", defArgs s_one, defBody s_one, defScope s_one, [], []⟩
def d_uids : He.DefD := ⟨("_uids", none), "_uids", "_uids", defArgs s_uids, defBody s_uids, defScope s_uids, [], []⟩
def d_within : He.DefD := ⟨("_within", none), "_within", "_within", defArgs s_within, defBody s_within, defScope s_within, [], []⟩
def d_two : He.DefD := ⟨("_two", none), "_two", "_two", defArgs s_two, defBody s_two, defScope s_two, [], []⟩
def d_roles : He.DefD := ⟨("_roles", none), "_roles", "_roles", defArgs s_roles, defBody s_roles, defScope s_roles, [], []⟩
def d_is_passed_on : He.DefD := ⟨("_is_passed_on", none), "_is_passed_on", "_is_passed_on", defArgs s_is_passed_on, defBody s_is_passed_on, defScope s_is_passed_on, [], []⟩
def d_Walk___init__ : He.DefD := ⟨("Walk", some "__init__"), "__init__", "Walk.__init__", defArgs s_Walk___init__, defBody s_Walk___init__, defScope s_Walk___init__, [], []⟩
def d_Walk__outcome : He.DefD := ⟨("Walk", some "_outcome"), "_outcome", "Walk._outcome", defArgs s_Walk__outcome, defBody s_Walk__outcome, defScope s_Walk__outcome, [], []⟩
def d_Walk__settle : He.DefD := ⟨("Walk", some "_settle"), "_settle", "Walk._settle", defArgs s_Walk__settle, defBody s_Walk__settle, defScope s_Walk__settle, [], []⟩
def d_Walk__behind : He.DefD := ⟨("Walk", some "_behind"), "_behind", "Walk._behind", defArgs s_Walk__behind, defBody s_Walk__behind, defScope s_Walk__behind, [], []⟩
def d_Walk_run : He.DefD := ⟨("Walk", some "run"), "run", "Walk.run", defArgs s_Walk_run, defBody s_Walk_run, defScope s_Walk_run, [], []⟩
def d_evaluate : He.DefD := ⟨("evaluate", none), "evaluate", "evaluate", defArgs s_evaluate, defBody s_evaluate, defScope s_evaluate, [], []⟩
def d_split_path : He.DefD := ⟨("split_path", none), "split_path", "split_path", defArgs s_split_path, defBody s_split_path, defScope s_split_path, [], []⟩
def d_extended : He.DefD := ⟨("_extended", none), "_extended", "_extended", defArgs s_extended, defBody s_extended, defScope s_extended, [], []⟩
def d_paths_of : He.DefD := ⟨("_paths_of", none), "_paths_of", "_paths_of", defArgs s_paths_of, defBody s_paths_of, defScope s_paths_of, [], []⟩
def d_node_paths : He.DefD := ⟨("node_paths", none), "node_paths", "node_paths", defArgs s_node_paths, defBody s_node_paths, defScope s_node_paths, [], []⟩
def d_expression_manifest : He.DefD := ⟨("expression_manifest", none), "expression_manifest", "expression_manifest", defArgs s_expression_manifest, defBody s_expression_manifest, defScope s_expression_manifest, [], []⟩
def d_root_uid : He.DefD := ⟨("_root_uid", none), "_root_uid", "_root_uid", defArgs s_root_uid, defBody s_root_uid, defScope s_root_uid, [], []⟩
def d_follow : He.DefD := ⟨("follow", none), "follow", "follow", defArgs s_follow, defBody s_follow, defScope s_follow, [], []⟩
def d_ends : He.DefD := ⟨("_ends", none), "_ends", "_ends", defArgs s_ends, defBody s_ends, defScope s_ends, [], []⟩
def d_named_reads : He.DefD := ⟨("named_reads", none), "named_reads", "named_reads", defArgs s_named_reads, defBody s_named_reads, defScope s_named_reads, [], []⟩
def d_hierarchy : He.DefD := ⟨("_hierarchy", none), "_hierarchy", "_hierarchy", defArgs s_hierarchy, defBody s_hierarchy, defScope s_hierarchy, [], []⟩
def d_slice_of : He.DefD := ⟨("slice_of", none), "slice_of", "slice_of", defArgs s_slice_of, defBody s_slice_of, defScope s_slice_of, [], []⟩
def d_in_scope : He.DefD := ⟨("in_scope", none), "in_scope", "in_scope", defArgs s_in_scope, defBody s_in_scope, defScope s_in_scope, [], []⟩
def d_condition_state : He.DefD := ⟨("_condition_state", none), "_condition_state", "_condition_state", defArgs s_condition_state, defBody s_condition_state, defScope s_condition_state, [], []⟩
def d_policy_state : He.DefD := ⟨("policy_state", none), "policy_state", "policy_state", defArgs s_policy_state, defBody s_policy_state, defScope s_policy_state, [], []⟩
def d_fits : He.DefD := ⟨("_fits", none), "_fits", "_fits", defArgs s_fits, defBody s_fits, defScope s_fits, [], []⟩
def d_can_apply : He.DefD := ⟨("can_apply", none), "can_apply", "can_apply", defArgs s_can_apply, defBody s_can_apply, defScope s_can_apply, [], []⟩
def d_decision : He.DefD := ⟨("_decision", none), "_decision", "_decision", defArgs s_decision, defBody s_decision, defScope s_decision, [], []⟩
def d_decide : He.DefD := ⟨("decide", none), "decide", "decide", defArgs s_decide, defBody s_decide, defScope s_decide, [], []⟩
def d_join_manifests : He.DefD := ⟨("join_manifests", none), "join_manifests", "join_manifests", defArgs s_join_manifests, defBody s_join_manifests, defScope s_join_manifests, [], []⟩
def d_policy_manifest : He.DefD := ⟨("policy_manifest", none), "policy_manifest", "policy_manifest", defArgs s_policy_manifest, defBody s_policy_manifest, defScope s_policy_manifest, [], []⟩
def d_manifest : He.DefD := ⟨("manifest", none), "manifest", "manifest", defArgs s_manifest, defBody s_manifest, defScope s_manifest, [], []⟩
def d_law_cell : He.DefD := ⟨("_law_cell", none), "_law_cell", "_law_cell", defArgs s_law_cell, defBody s_law_cell, defScope s_law_cell, [], []⟩
def d_law_digits : He.DefD := ⟨("_law_digits", none), "_law_digits", "_law_digits", defArgs s_law_digits, defBody s_law_digits, defScope s_law_digits, [], []⟩
def d_law_draw : He.DefD := ⟨("_law_draw", none), "_law_draw", "_law_draw", defArgs s_law_draw, defBody s_law_draw, defScope s_law_draw, [], []⟩
def d_law_name : He.DefD := ⟨("_law_name", none), "_law_name", "_law_name", defArgs s_law_name, defBody s_law_name, defScope s_law_name, [], []⟩
def d_law_pool : He.DefD := ⟨("_law_pool", none), "_law_pool", "_law_pool", defArgs s_law_pool, defBody s_law_pool, defScope s_law_pool, [], []⟩
def d_law_uids : He.DefD := ⟨("_law_uids", none), "_law_uids", "_law_uids", defArgs s_law_uids, defBody s_law_uids, defScope s_law_uids, [], []⟩
def d_law_scope : He.DefD := ⟨("_law_scope", none), "_law_scope", "_law_scope", defArgs s_law_scope, defBody s_law_scope, defScope s_law_scope, [], []⟩
def d_law_key : He.DefD := ⟨("_law_key", none), "_law_key", "_law_key", defArgs s_law_key, defBody s_law_key, defScope s_law_key, [], []⟩
def d_law_set : He.DefD := ⟨("_law_set", none), "_law_set", "_law_set", defArgs s_law_set, defBody s_law_set, defScope s_law_set, [], []⟩
def d_law_number : He.DefD := ⟨("_law_number", none), "_law_number", "_law_number", defArgs s_law_number, defBody s_law_number, defScope s_law_number, [], []⟩
def d_law_text : He.DefD := ⟨("_law_text", none), "_law_text", "_law_text", defArgs s_law_text, defBody s_law_text, defScope s_law_text, [], []⟩
def d_law_scalar : He.DefD := ⟨("_law_scalar", none), "_law_scalar", "_law_scalar", defArgs s_law_scalar, defBody s_law_scalar, defScope s_law_scalar, [], []⟩
def d_law_value : He.DefD := ⟨("_law_value", none), "_law_value", "_law_value", defArgs s_law_value, defBody s_law_value, defScope s_law_value, [], []⟩
def d_law_leaf : He.DefD := ⟨("_law_leaf", none), "_law_leaf", "_law_leaf", defArgs s_law_leaf, defBody s_law_leaf, defScope s_law_leaf, [], []⟩
def d_law_pair : He.DefD := ⟨("_law_pair", none), "_law_pair", "_law_pair", defArgs s_law_pair, defBody s_law_pair, defScope s_law_pair, [], []⟩
def d_law_expression : He.DefD := ⟨("_law_expression", none), "_law_expression", "_law_expression", defArgs s_law_expression, defBody s_law_expression, defScope s_law_expression, [], []⟩
def d_law_kinds : He.DefD := ⟨("_law_kinds", none), "_law_kinds", "_law_kinds", defArgs s_law_kinds, defBody s_law_kinds, defScope s_law_kinds, [], []⟩
def d_law_policy : He.DefD := ⟨("_law_policy", none), "_law_policy", "_law_policy", defArgs s_law_policy, defBody s_law_policy, defScope s_law_policy, [], []⟩
def d_law_policies : He.DefD := ⟨("_law_policies", none), "_law_policies", "_law_policies", defArgs s_law_policies, defBody s_law_policies, defScope s_law_policies, [], []⟩
def d_law_entities : He.DefD := ⟨("_law_entities", none), "_law_entities", "_law_entities", defArgs s_law_entities, defBody s_law_entities, defScope s_law_entities, [], []⟩
def d_law_request : He.DefD := ⟨("_law_request", none), "_law_request", "_law_request", defArgs s_law_request, defBody s_law_request, defScope s_law_request, [], []⟩
def d_law_alike : He.DefD := ⟨("_law_alike", none), "_law_alike", "_law_alike", defArgs s_law_alike, defBody s_law_alike, defScope s_law_alike, [], []⟩
def d_law : He.DefD := ⟨("law", none), "law", "law", defArgs s_law, defBody s_law, defScope s_law, [], []⟩
def fn0 : List He.DefD := [d_is_name, d_is_uid, d_kind_of, d_check_uid, d_is_rising, d_is_text, d_is_scalar, d_scalar_before, d_is_value, d_are_named, d_value_named, d_context_value, d_check_parents, d_check_entity, d_Database___init__, d_Database_entities, d_Database_many, d_Database_attribute, d_Database_parents, d_Database_ancestors, d_Database_tell, d_operands, d_starts, d_join_reads, d_truth, d_ask, d_leaf, d_attribute, d_one, d_uids]
def fn1 : List He.DefD := [d_within, d_two, d_roles, d_is_passed_on, d_Walk___init__, d_Walk__outcome, d_Walk__settle, d_Walk__behind, d_Walk_run, d_evaluate, d_split_path, d_extended, d_paths_of, d_node_paths, d_expression_manifest, d_root_uid, d_follow, d_ends, d_named_reads, d_hierarchy, d_slice_of, d_in_scope, d_condition_state, d_policy_state, d_fits, d_can_apply, d_decision, d_decide, d_join_manifests, d_policy_manifest]
def fn2 : List He.DefD := [d_manifest, d_law_cell, d_law_digits, d_law_draw, d_law_name, d_law_pool, d_law_uids, d_law_scope, d_law_key, d_law_set, d_law_number, d_law_text, d_law_scalar, d_law_value, d_law_leaf, d_law_pair, d_law_expression, d_law_kinds, d_law_policy, d_law_policies, d_law_entities, d_law_request, d_law_alike, d_law]
def fn : List He.DefD := fn0 ++ fn1 ++ fn2
def fa0 : List He.Fa := [.glo "is_name", .glo "is_uid", .glo "kind_of", .glo "check_uid", .glo "is_rising", .glo "is_text", .glo "is_scalar", .glo "scalar_before", .glo "is_value", .glo "are_named", .glo "value_named", .glo "context_value", .glo "_check_parents", .glo "check_entity", .glo "operands", .glo "starts", .glo "join_reads", .glo "truth", .glo "ask", .glo "_leaf", .glo "_attribute", .glo "_one", .glo "_uids", .glo "_within", .glo "_two", .glo "_roles", .glo "_is_passed_on", .glo "evaluate", .glo "split_path", .glo "_extended"]
def fa1 : List He.Fa := [.glo "_paths_of", .glo "node_paths", .glo "expression_manifest", .glo "_root_uid", .glo "follow", .glo "_ends", .glo "named_reads", .glo "_hierarchy", .glo "slice_of", .glo "in_scope", .glo "_condition_state", .glo "policy_state", .glo "_fits", .glo "can_apply", .glo "_decision", .glo "decide", .glo "join_manifests", .glo "policy_manifest", .glo "manifest", .glo "_law_cell", .glo "_law_digits", .glo "_law_draw", .glo "_law_name", .glo "_law_pool", .glo "_law_uids", .glo "_law_scope", .glo "_law_key", .glo "_law_set", .glo "_law_number", .glo "_law_text"]
def fa2 : List He.Fa := [.glo "_law_scalar", .glo "_law_value", .glo "_law_leaf", .glo "_law_pair", .glo "_law_expression", .glo "_law_kinds", .glo "_law_policy", .glo "_law_policies", .glo "_law_entities", .glo "_law_request", .glo "_law_alike", .glo "law", .glo "Database", .glo "Walk", .glo "UNFIT", .glo "RANKS", .glo "ONE_OPERAND", .glo "TWO_OPERANDS", .glo "YES", .glo "NO", .glo "WRONG_KIND", .glo "NO_ENTITY", .glo "NO_ATTRIBUTE", .glo "LAZY", .glo "NOWHERE", .glo "OFF", .glo "PARTS", .free "len", .free "ord", .free "tuple"]
def fa3 : List He.Fa := [.free "list", .free "sorted", .free "any", .free "int", .free "str", .free "repr", .free "range", .free "zip", .free "enumerate", .int "NAME_MOST" 12, .int "NUMBER_MOST" 1000000, .int "TEXT_MOST" 40, .int "SET_MOST" 8, .int "ENTITIES_MOST" 40, .int "ATTRIBUTES_MOST" 8, .int "PARENTS_MOST" 6, .str "NAME_SIGNS" "abcdefghijklmnopqrstuvwxyz0123456789", .str "CONTEXT" "context", .cls "Database", .noat "Database" "_table", .cls "Walk", .noat "Walk" "_expression", .noat "Walk" "_request", .noat "Walk" "_source", .noat "Walk" "_roles", .noat "Walk" "_starts", .noat "Walk" "_values", .noat "Walk" "reads", .mkr "Database", .meth "Database" "entities"]
def fa4 : List He.Fa := [.meth "Database" "many", .meth "Database" "attribute", .meth "Database" "parents", .meth "Database" "ancestors", .meth "Database" "tell", .mkr "Walk", .meth "Walk" "_outcome", .meth "Walk" "_settle", .meth "Walk" "_behind", .meth "Walk" "run"]
def fa : List He.Fa := fa0 ++ fa1 ++ fa2 ++ fa3 ++ fa4
def ts : List He.Tab := [(fun K => He.ga K "PARTS", ["principal", "action", "resource"])]
/-- the object has no dict of its own, is a tuple -/
def nodB (K : PySem.W.Frag) (x : Str) : Bool := match K.lookup (He.ga K x) with
  | some ⟨.type c, none, _, _⟩ => decide (c = "tuple")
  | _ => false
/-- the tuples of the top, the table's values -/
def exB (K : PySem.W.Frag) : Bool := (He.tupB K "UNFIT" [.int 34, .int 37] && (He.tupB K "RANKS" [.str "truth", .str "number", .str "text", .str "entity"] && (He.tupB K "ONE_OPERAND" [.str "get", .str "has", .str "is", .str "not"] && (He.tupB K "TWO_OPERANDS" [.str "and", .str "or", .str "same", .str "less", .str "in", .str "contains"] && (He.tupB K "YES" [.str "truth", .bl true] && (He.tupB K "NO" [.str "truth", .bl false] && (He.tupB K "WRONG_KIND" [.str "fails", .str "wrong kind"] && (He.tupB K "NO_ENTITY" [.str "fails", .str "no entity"] && (He.tupB K "NO_ATTRIBUTE" [.str "fails", .str "no attribute"] && (He.tupB K "LAZY" [.str "and", .str "or", .str "if"] && (He.tupB K "NOWHERE" [.str "nowhere"] && (He.tupB K "OFF" [.str "off"] && (He.valsB K (He.ga K "PARTS") [("principal", .int 0), ("action", .int 1), ("resource", .int 2)] && nodB K "RANKS")))))))))))))
def as0 : List Addr := [3, 60, 67, 74, 82, 89, 90, 91, 98, 105, 112, 119, 124, 131, 138, 145, 152, 237, 242, 243, 250, 257, 258, 259, 260, 261, 262, 263, 264, 271, 278, 285, 292, 299, 306, 311, 316, 323, 330, 337]
def as1 : List Addr := [380, 391, 398, 403, 410, 417, 424, 425, 432, 439, 446, 451, 458, 463, 464, 471, 478, 485, 492, 499, 506, 513, 520, 527, 532, 539, 546, 553, 560, 567, 574, 581, 588, 595, 602, 609, 616, 623, 630, 637]
def as2 : List Addr := [644, 651, 658, 665, 672, 677, 684, 689, 59, 66, 73, 81, 75, 88, 97, 104, 111, 118, 123, 130, 137, 144, 151, 236, 249, 256, 270, 277, 284, 291, 298, 305, 310, 315, 322, 329, 336, 379, 390, 397]
def as3 : List Addr := [402, 409, 416, 423, 431, 438, 445, 450, 457, 462, 470, 477, 484, 491, 498, 505, 512, 519, 526, 531, 538, 545, 552, 559, 566, 573, 580, 587, 594, 601, 608, 615, 622, 629, 636, 643, 650, 657, 664, 671]
def as4 : List Addr := [676, 683, 688, 164, 171, 178, 192, 199, 206, 220, 351, 356, 363, 370, 377, 163, 170, 177, 191, 198, 205, 219, 350, 355, 362, 369, 376]
/-- where the objects stand that the facts read (found by a look at the run) -/
def asL : List Addr := as0 ++ as1 ++ as2 ++ as3 ++ as4
def hookM : PySem.W.Hook where
  α := He.AlT × Bool
  obs := fun s => (He.obsT fa fn ts (He.frG s.heap.get? asL), exB (He.frG s.heap.get? asL))
  val := fun w => (He.valT fn ts w, true)
  says := fun w h => ∃ K : PySem.W.Frag, K.In h ∧ He.SaysT fa fn ts w K ∧ exB K = true
  of := fun _ s e => ⟨He.frG s.heap.get? asL, He.frG_in, congrArg (fun z : He.AlT × Bool => z.1) e, congrArg (fun z : He.AlT × Bool => z.2) e⟩
  keeps := fun _ _ _ ⟨K, hK, c⟩ k => ⟨K, PySem.W.Frag.In.keeps hK k, c⟩
/-- what every def's proof leans on -/
structure Top (w : World) (K : PySem.W.Frag) (mg : Str → Option Value) : Prop where
  in_ : ∃ h : Heap, K.In h ∧ h.Ns mainGlobals mg
  says : He.SaysT fa fn ts w K
  ex : exB K = true
section
variable {w : World} {K : PySem.W.Frag} {mg : Str → Option Value}
theorem Top.fact (T : Top w K mg) {f : He.Fa} (i : Nat) (h : fa[i]? = some f := by rfl) : f.ok K = true := T.says.d.fact i h
theorem Top.glo (T : Top w K mg) {x : Str} (i : Nat) (h : fa[i]? = some (.glo x) := by rfl) : mg x = some (.ref (He.ga K x)) := by
  obtain ⟨hp, X, G⟩ := T.in_
  exact He.glo_ok X G (T.fact i h)
theorem Top.free (T : Top w K mg) {x : Str} (i : Nat) (h : fa[i]? = some (.free x) := by rfl) : mg x = none := by
  obtain ⟨hp, X, G⟩ := T.in_
  exact He.free_ok X G (T.fact i h)
theorem Top.int (T : Top w K mg) {x : Str} {n : Int} (i : Nat) (h : fa[i]? = some (.int x n) := by rfl) : ∃ t, mg x = some (.int n t) := by
  obtain ⟨hp, X, G⟩ := T.in_
  exact He.int_ok X G (T.fact i h)
theorem Top.str (T : Top w K mg) {x z : Str} (i : Nat) (h : fa[i]? = some (.str x z) := by rfl) : ∃ t, mg x = some (.str z t) := by
  obtain ⟨hp, X, G⟩ := T.in_
  exact He.str_ok X G (T.fact i h)
abbrev FnP (K : PySem.W.Frag) (d : He.DefD) (fd : FuncData) : Prop := FunD K d.name d.qual d.params d.body d.scope (d.dvs K) (d.kws K) (He.fAd K d.at_) fd
theorem Top.fn (T : Top w K mg) {d : He.DefD} (i : Nat) (h : fn[i]? = some d := by rfl) : ∃ fd, FnP K d fd := T.says.d.def_ i h
theorem g_is_name (T : Top w K mg) : mg "is_name" = some (.ref (He.ga K "is_name")) := T.glo 0
theorem g_is_uid (T : Top w K mg) : mg "is_uid" = some (.ref (He.ga K "is_uid")) := T.glo 1
theorem g_kind_of (T : Top w K mg) : mg "kind_of" = some (.ref (He.ga K "kind_of")) := T.glo 2
theorem g_check_uid (T : Top w K mg) : mg "check_uid" = some (.ref (He.ga K "check_uid")) := T.glo 3
theorem g_is_rising (T : Top w K mg) : mg "is_rising" = some (.ref (He.ga K "is_rising")) := T.glo 4
theorem g_is_text (T : Top w K mg) : mg "is_text" = some (.ref (He.ga K "is_text")) := T.glo 5
theorem g_is_scalar (T : Top w K mg) : mg "is_scalar" = some (.ref (He.ga K "is_scalar")) := T.glo 6
theorem g_scalar_before (T : Top w K mg) : mg "scalar_before" = some (.ref (He.ga K "scalar_before")) := T.glo 7
theorem g_is_value (T : Top w K mg) : mg "is_value" = some (.ref (He.ga K "is_value")) := T.glo 8
theorem g_are_named (T : Top w K mg) : mg "are_named" = some (.ref (He.ga K "are_named")) := T.glo 9
theorem g_value_named (T : Top w K mg) : mg "value_named" = some (.ref (He.ga K "value_named")) := T.glo 10
theorem g_context_value (T : Top w K mg) : mg "context_value" = some (.ref (He.ga K "context_value")) := T.glo 11
theorem g_check_parents (T : Top w K mg) : mg "_check_parents" = some (.ref (He.ga K "_check_parents")) := T.glo 12
theorem g_check_entity (T : Top w K mg) : mg "check_entity" = some (.ref (He.ga K "check_entity")) := T.glo 13
theorem g_operands (T : Top w K mg) : mg "operands" = some (.ref (He.ga K "operands")) := T.glo 14
theorem g_starts (T : Top w K mg) : mg "starts" = some (.ref (He.ga K "starts")) := T.glo 15
theorem g_join_reads (T : Top w K mg) : mg "join_reads" = some (.ref (He.ga K "join_reads")) := T.glo 16
theorem g_truth (T : Top w K mg) : mg "truth" = some (.ref (He.ga K "truth")) := T.glo 17
theorem g_ask (T : Top w K mg) : mg "ask" = some (.ref (He.ga K "ask")) := T.glo 18
theorem g_leaf (T : Top w K mg) : mg "_leaf" = some (.ref (He.ga K "_leaf")) := T.glo 19
theorem g_attribute (T : Top w K mg) : mg "_attribute" = some (.ref (He.ga K "_attribute")) := T.glo 20
theorem g_one (T : Top w K mg) : mg "_one" = some (.ref (He.ga K "_one")) := T.glo 21
theorem g_uids (T : Top w K mg) : mg "_uids" = some (.ref (He.ga K "_uids")) := T.glo 22
theorem g_within (T : Top w K mg) : mg "_within" = some (.ref (He.ga K "_within")) := T.glo 23
theorem g_two (T : Top w K mg) : mg "_two" = some (.ref (He.ga K "_two")) := T.glo 24
theorem g_roles (T : Top w K mg) : mg "_roles" = some (.ref (He.ga K "_roles")) := T.glo 25
theorem g_is_passed_on (T : Top w K mg) : mg "_is_passed_on" = some (.ref (He.ga K "_is_passed_on")) := T.glo 26
theorem g_evaluate (T : Top w K mg) : mg "evaluate" = some (.ref (He.ga K "evaluate")) := T.glo 27
theorem g_split_path (T : Top w K mg) : mg "split_path" = some (.ref (He.ga K "split_path")) := T.glo 28
theorem g_extended (T : Top w K mg) : mg "_extended" = some (.ref (He.ga K "_extended")) := T.glo 29
theorem g_paths_of (T : Top w K mg) : mg "_paths_of" = some (.ref (He.ga K "_paths_of")) := T.glo 30
theorem g_node_paths (T : Top w K mg) : mg "node_paths" = some (.ref (He.ga K "node_paths")) := T.glo 31
theorem g_expression_manifest (T : Top w K mg) : mg "expression_manifest" = some (.ref (He.ga K "expression_manifest")) := T.glo 32
theorem g_root_uid (T : Top w K mg) : mg "_root_uid" = some (.ref (He.ga K "_root_uid")) := T.glo 33
theorem g_follow (T : Top w K mg) : mg "follow" = some (.ref (He.ga K "follow")) := T.glo 34
theorem g_ends (T : Top w K mg) : mg "_ends" = some (.ref (He.ga K "_ends")) := T.glo 35
theorem g_named_reads (T : Top w K mg) : mg "named_reads" = some (.ref (He.ga K "named_reads")) := T.glo 36
theorem g_hierarchy (T : Top w K mg) : mg "_hierarchy" = some (.ref (He.ga K "_hierarchy")) := T.glo 37
theorem g_slice_of (T : Top w K mg) : mg "slice_of" = some (.ref (He.ga K "slice_of")) := T.glo 38
theorem g_in_scope (T : Top w K mg) : mg "in_scope" = some (.ref (He.ga K "in_scope")) := T.glo 39
theorem g_condition_state (T : Top w K mg) : mg "_condition_state" = some (.ref (He.ga K "_condition_state")) := T.glo 40
theorem g_policy_state (T : Top w K mg) : mg "policy_state" = some (.ref (He.ga K "policy_state")) := T.glo 41
theorem g_fits (T : Top w K mg) : mg "_fits" = some (.ref (He.ga K "_fits")) := T.glo 42
theorem g_can_apply (T : Top w K mg) : mg "can_apply" = some (.ref (He.ga K "can_apply")) := T.glo 43
theorem g_decision (T : Top w K mg) : mg "_decision" = some (.ref (He.ga K "_decision")) := T.glo 44
theorem g_decide (T : Top w K mg) : mg "decide" = some (.ref (He.ga K "decide")) := T.glo 45
theorem g_join_manifests (T : Top w K mg) : mg "join_manifests" = some (.ref (He.ga K "join_manifests")) := T.glo 46
theorem g_policy_manifest (T : Top w K mg) : mg "policy_manifest" = some (.ref (He.ga K "policy_manifest")) := T.glo 47
theorem g_manifest (T : Top w K mg) : mg "manifest" = some (.ref (He.ga K "manifest")) := T.glo 48
theorem g_law_cell (T : Top w K mg) : mg "_law_cell" = some (.ref (He.ga K "_law_cell")) := T.glo 49
theorem g_law_digits (T : Top w K mg) : mg "_law_digits" = some (.ref (He.ga K "_law_digits")) := T.glo 50
theorem g_law_draw (T : Top w K mg) : mg "_law_draw" = some (.ref (He.ga K "_law_draw")) := T.glo 51
theorem g_law_name (T : Top w K mg) : mg "_law_name" = some (.ref (He.ga K "_law_name")) := T.glo 52
theorem g_law_pool (T : Top w K mg) : mg "_law_pool" = some (.ref (He.ga K "_law_pool")) := T.glo 53
theorem g_law_uids (T : Top w K mg) : mg "_law_uids" = some (.ref (He.ga K "_law_uids")) := T.glo 54
theorem g_law_scope (T : Top w K mg) : mg "_law_scope" = some (.ref (He.ga K "_law_scope")) := T.glo 55
theorem g_law_key (T : Top w K mg) : mg "_law_key" = some (.ref (He.ga K "_law_key")) := T.glo 56
theorem g_law_set (T : Top w K mg) : mg "_law_set" = some (.ref (He.ga K "_law_set")) := T.glo 57
theorem g_law_number (T : Top w K mg) : mg "_law_number" = some (.ref (He.ga K "_law_number")) := T.glo 58
theorem g_law_text (T : Top w K mg) : mg "_law_text" = some (.ref (He.ga K "_law_text")) := T.glo 59
theorem g_law_scalar (T : Top w K mg) : mg "_law_scalar" = some (.ref (He.ga K "_law_scalar")) := T.glo 60
theorem g_law_value (T : Top w K mg) : mg "_law_value" = some (.ref (He.ga K "_law_value")) := T.glo 61
theorem g_law_leaf (T : Top w K mg) : mg "_law_leaf" = some (.ref (He.ga K "_law_leaf")) := T.glo 62
theorem g_law_pair (T : Top w K mg) : mg "_law_pair" = some (.ref (He.ga K "_law_pair")) := T.glo 63
theorem g_law_expression (T : Top w K mg) : mg "_law_expression" = some (.ref (He.ga K "_law_expression")) := T.glo 64
theorem g_law_kinds (T : Top w K mg) : mg "_law_kinds" = some (.ref (He.ga K "_law_kinds")) := T.glo 65
theorem g_law_policy (T : Top w K mg) : mg "_law_policy" = some (.ref (He.ga K "_law_policy")) := T.glo 66
theorem g_law_policies (T : Top w K mg) : mg "_law_policies" = some (.ref (He.ga K "_law_policies")) := T.glo 67
theorem g_law_entities (T : Top w K mg) : mg "_law_entities" = some (.ref (He.ga K "_law_entities")) := T.glo 68
theorem g_law_request (T : Top w K mg) : mg "_law_request" = some (.ref (He.ga K "_law_request")) := T.glo 69
theorem g_law_alike (T : Top w K mg) : mg "_law_alike" = some (.ref (He.ga K "_law_alike")) := T.glo 70
theorem g_law (T : Top w K mg) : mg "law" = some (.ref (He.ga K "law")) := T.glo 71
theorem g_Database (T : Top w K mg) : mg "Database" = some (.ref (He.ga K "Database")) := T.glo 72
theorem g_Walk (T : Top w K mg) : mg "Walk" = some (.ref (He.ga K "Walk")) := T.glo 73
theorem g_UNFIT (T : Top w K mg) : mg "UNFIT" = some (.ref (He.ga K "UNFIT")) := T.glo 74
theorem g_RANKS (T : Top w K mg) : mg "RANKS" = some (.ref (He.ga K "RANKS")) := T.glo 75
theorem g_ONE_OPERAND (T : Top w K mg) : mg "ONE_OPERAND" = some (.ref (He.ga K "ONE_OPERAND")) := T.glo 76
theorem g_TWO_OPERANDS (T : Top w K mg) : mg "TWO_OPERANDS" = some (.ref (He.ga K "TWO_OPERANDS")) := T.glo 77
theorem g_YES (T : Top w K mg) : mg "YES" = some (.ref (He.ga K "YES")) := T.glo 78
theorem g_NO (T : Top w K mg) : mg "NO" = some (.ref (He.ga K "NO")) := T.glo 79
theorem g_WRONG_KIND (T : Top w K mg) : mg "WRONG_KIND" = some (.ref (He.ga K "WRONG_KIND")) := T.glo 80
theorem g_NO_ENTITY (T : Top w K mg) : mg "NO_ENTITY" = some (.ref (He.ga K "NO_ENTITY")) := T.glo 81
theorem g_NO_ATTRIBUTE (T : Top w K mg) : mg "NO_ATTRIBUTE" = some (.ref (He.ga K "NO_ATTRIBUTE")) := T.glo 82
theorem g_LAZY (T : Top w K mg) : mg "LAZY" = some (.ref (He.ga K "LAZY")) := T.glo 83
theorem g_NOWHERE (T : Top w K mg) : mg "NOWHERE" = some (.ref (He.ga K "NOWHERE")) := T.glo 84
theorem g_OFF (T : Top w K mg) : mg "OFF" = some (.ref (He.ga K "OFF")) := T.glo 85
theorem g_PARTS (T : Top w K mg) : mg "PARTS" = some (.ref (He.ga K "PARTS")) := T.glo 86
theorem n_len (T : Top w K mg) : mg "len" = none := T.free 87
theorem n_ord (T : Top w K mg) : mg "ord" = none := T.free 88
theorem n_tuple (T : Top w K mg) : mg "tuple" = none := T.free 89
theorem n_list (T : Top w K mg) : mg "list" = none := T.free 90
theorem n_sorted (T : Top w K mg) : mg "sorted" = none := T.free 91
theorem n_any (T : Top w K mg) : mg "any" = none := T.free 92
theorem n_int (T : Top w K mg) : mg "int" = none := T.free 93
theorem n_str (T : Top w K mg) : mg "str" = none := T.free 94
theorem n_repr (T : Top w K mg) : mg "repr" = none := T.free 95
theorem n_range (T : Top w K mg) : mg "range" = none := T.free 96
theorem n_zip (T : Top w K mg) : mg "zip" = none := T.free 97
theorem n_enumerate (T : Top w K mg) : mg "enumerate" = none := T.free 98
theorem c_NAME_MOST (T : Top w K mg) : ∃ t, mg "NAME_MOST" = some (.int 12 t) := T.int 99
theorem c_NUMBER_MOST (T : Top w K mg) : ∃ t, mg "NUMBER_MOST" = some (.int 1000000 t) := T.int 100
theorem c_TEXT_MOST (T : Top w K mg) : ∃ t, mg "TEXT_MOST" = some (.int 40 t) := T.int 101
theorem c_SET_MOST (T : Top w K mg) : ∃ t, mg "SET_MOST" = some (.int 8 t) := T.int 102
theorem c_ENTITIES_MOST (T : Top w K mg) : ∃ t, mg "ENTITIES_MOST" = some (.int 40 t) := T.int 103
theorem c_ATTRIBUTES_MOST (T : Top w K mg) : ∃ t, mg "ATTRIBUTES_MOST" = some (.int 8 t) := T.int 104
theorem c_PARENTS_MOST (T : Top w K mg) : ∃ t, mg "PARENTS_MOST" = some (.int 6 t) := T.int 105
theorem c_NAME_SIGNS (T : Top w K mg) : ∃ t, mg "NAME_SIGNS" = some (.str "abcdefghijklmnopqrstuvwxyz0123456789" t) := T.str 106
theorem c_CONTEXT (T : Top w K mg) : ∃ t, mg "CONTEXT" = some (.str "context" t) := T.str 107
theorem cl_Database (T : Top w K mg) : Cls K (He.ga K "Database") := He.cls_ok (T.fact (f := .cls "Database") 108)
theorem na_Database_table (T : Top w K mg) : NoAttr K (He.ga K "Database") "_table" := He.noat_ok (T.fact (f := .noat "Database" "_table") 109)
theorem cl_Walk (T : Top w K mg) : Cls K (He.ga K "Walk") := He.cls_ok (T.fact (f := .cls "Walk") 110)
theorem na_Walk_expression (T : Top w K mg) : NoAttr K (He.ga K "Walk") "_expression" := He.noat_ok (T.fact (f := .noat "Walk" "_expression") 111)
theorem na_Walk_request (T : Top w K mg) : NoAttr K (He.ga K "Walk") "_request" := He.noat_ok (T.fact (f := .noat "Walk" "_request") 112)
theorem na_Walk_source (T : Top w K mg) : NoAttr K (He.ga K "Walk") "_source" := He.noat_ok (T.fact (f := .noat "Walk" "_source") 113)
theorem na_Walk_roles (T : Top w K mg) : NoAttr K (He.ga K "Walk") "_roles" := He.noat_ok (T.fact (f := .noat "Walk" "_roles") 114)
theorem na_Walk_starts (T : Top w K mg) : NoAttr K (He.ga K "Walk") "_starts" := He.noat_ok (T.fact (f := .noat "Walk" "_starts") 115)
theorem na_Walk_values (T : Top w K mg) : NoAttr K (He.ga K "Walk") "_values" := He.noat_ok (T.fact (f := .noat "Walk" "_values") 116)
theorem na_Walk_reads (T : Top w K mg) : NoAttr K (He.ga K "Walk") "reads" := He.noat_ok (T.fact (f := .noat "Walk" "reads") 117)
theorem mk_Database (T : Top w K mg) : Mk K (He.ga K "Database") (He.ma K (He.ga K "Database") "__init__") := He.mkr_ok (T.fact (f := .mkr "Database") 118)
theorem me_Database_entities (T : Top w K mg) : Meth K (He.ga K "Database") "entities" (He.ma K (He.ga K "Database") "entities") := He.meth_ok (T.fact (f := .meth "Database" "entities") 119)
theorem me_Database_many (T : Top w K mg) : Meth K (He.ga K "Database") "many" (He.ma K (He.ga K "Database") "many") := He.meth_ok (T.fact (f := .meth "Database" "many") 120)
theorem me_Database_attribute (T : Top w K mg) : Meth K (He.ga K "Database") "attribute" (He.ma K (He.ga K "Database") "attribute") := He.meth_ok (T.fact (f := .meth "Database" "attribute") 121)
theorem me_Database_parents (T : Top w K mg) : Meth K (He.ga K "Database") "parents" (He.ma K (He.ga K "Database") "parents") := He.meth_ok (T.fact (f := .meth "Database" "parents") 122)
theorem me_Database_ancestors (T : Top w K mg) : Meth K (He.ga K "Database") "ancestors" (He.ma K (He.ga K "Database") "ancestors") := He.meth_ok (T.fact (f := .meth "Database" "ancestors") 123)
theorem me_Database_tell (T : Top w K mg) : Meth K (He.ga K "Database") "tell" (He.ma K (He.ga K "Database") "tell") := He.meth_ok (T.fact (f := .meth "Database" "tell") 124)
theorem mk_Walk (T : Top w K mg) : Mk K (He.ga K "Walk") (He.ma K (He.ga K "Walk") "__init__") := He.mkr_ok (T.fact (f := .mkr "Walk") 125)
theorem me_Walk_outcome (T : Top w K mg) : Meth K (He.ga K "Walk") "_outcome" (He.ma K (He.ga K "Walk") "_outcome") := He.meth_ok (T.fact (f := .meth "Walk" "_outcome") 126)
theorem me_Walk_settle (T : Top w K mg) : Meth K (He.ga K "Walk") "_settle" (He.ma K (He.ga K "Walk") "_settle") := He.meth_ok (T.fact (f := .meth "Walk" "_settle") 127)
theorem me_Walk_behind (T : Top w K mg) : Meth K (He.ga K "Walk") "_behind" (He.ma K (He.ga K "Walk") "_behind") := He.meth_ok (T.fact (f := .meth "Walk" "_behind") 128)
theorem me_Walk_run (T : Top w K mg) : Meth K (He.ga K "Walk") "run" (He.ma K (He.ga K "Walk") "run") := He.meth_ok (T.fact (f := .meth "Walk" "run") 129)
theorem f_is_name (T : Top w K mg) : ∃ fd, FnP K d_is_name fd := T.fn 0
theorem f_is_uid (T : Top w K mg) : ∃ fd, FnP K d_is_uid fd := T.fn 1
theorem f_kind_of (T : Top w K mg) : ∃ fd, FnP K d_kind_of fd := T.fn 2
theorem f_check_uid (T : Top w K mg) : ∃ fd, FnP K d_check_uid fd := T.fn 3
theorem f_is_rising (T : Top w K mg) : ∃ fd, FnP K d_is_rising fd := T.fn 4
theorem f_is_text (T : Top w K mg) : ∃ fd, FnP K d_is_text fd := T.fn 5
theorem f_is_scalar (T : Top w K mg) : ∃ fd, FnP K d_is_scalar fd := T.fn 6
theorem f_scalar_before (T : Top w K mg) : ∃ fd, FnP K d_scalar_before fd := T.fn 7
theorem f_is_value (T : Top w K mg) : ∃ fd, FnP K d_is_value fd := T.fn 8
theorem f_are_named (T : Top w K mg) : ∃ fd, FnP K d_are_named fd := T.fn 9
theorem f_value_named (T : Top w K mg) : ∃ fd, FnP K d_value_named fd := T.fn 10
theorem f_context_value (T : Top w K mg) : ∃ fd, FnP K d_context_value fd := T.fn 11
theorem f_check_parents (T : Top w K mg) : ∃ fd, FnP K d_check_parents fd := T.fn 12
theorem f_check_entity (T : Top w K mg) : ∃ fd, FnP K d_check_entity fd := T.fn 13
theorem f_Database___init__ (T : Top w K mg) : ∃ fd, FnP K d_Database___init__ fd := T.fn 14
theorem f_Database_entities (T : Top w K mg) : ∃ fd, FnP K d_Database_entities fd := T.fn 15
theorem f_Database_many (T : Top w K mg) : ∃ fd, FnP K d_Database_many fd := T.fn 16
theorem f_Database_attribute (T : Top w K mg) : ∃ fd, FnP K d_Database_attribute fd := T.fn 17
theorem f_Database_parents (T : Top w K mg) : ∃ fd, FnP K d_Database_parents fd := T.fn 18
theorem f_Database_ancestors (T : Top w K mg) : ∃ fd, FnP K d_Database_ancestors fd := T.fn 19
theorem f_Database_tell (T : Top w K mg) : ∃ fd, FnP K d_Database_tell fd := T.fn 20
theorem f_operands (T : Top w K mg) : ∃ fd, FnP K d_operands fd := T.fn 21
theorem f_starts (T : Top w K mg) : ∃ fd, FnP K d_starts fd := T.fn 22
theorem f_join_reads (T : Top w K mg) : ∃ fd, FnP K d_join_reads fd := T.fn 23
theorem f_truth (T : Top w K mg) : ∃ fd, FnP K d_truth fd := T.fn 24
theorem f_ask (T : Top w K mg) : ∃ fd, FnP K d_ask fd := T.fn 25
theorem f_leaf (T : Top w K mg) : ∃ fd, FnP K d_leaf fd := T.fn 26
theorem f_attribute (T : Top w K mg) : ∃ fd, FnP K d_attribute fd := T.fn 27
theorem f_one (T : Top w K mg) : ∃ fd, FnP K d_one fd := T.fn 28
theorem f_uids (T : Top w K mg) : ∃ fd, FnP K d_uids fd := T.fn 29
theorem f_within (T : Top w K mg) : ∃ fd, FnP K d_within fd := T.fn 30
theorem f_two (T : Top w K mg) : ∃ fd, FnP K d_two fd := T.fn 31
theorem f_roles (T : Top w K mg) : ∃ fd, FnP K d_roles fd := T.fn 32
theorem f_is_passed_on (T : Top w K mg) : ∃ fd, FnP K d_is_passed_on fd := T.fn 33
theorem f_Walk___init__ (T : Top w K mg) : ∃ fd, FnP K d_Walk___init__ fd := T.fn 34
theorem f_Walk__outcome (T : Top w K mg) : ∃ fd, FnP K d_Walk__outcome fd := T.fn 35
theorem f_Walk__settle (T : Top w K mg) : ∃ fd, FnP K d_Walk__settle fd := T.fn 36
theorem f_Walk__behind (T : Top w K mg) : ∃ fd, FnP K d_Walk__behind fd := T.fn 37
theorem f_Walk_run (T : Top w K mg) : ∃ fd, FnP K d_Walk_run fd := T.fn 38
theorem f_evaluate (T : Top w K mg) : ∃ fd, FnP K d_evaluate fd := T.fn 39
theorem f_split_path (T : Top w K mg) : ∃ fd, FnP K d_split_path fd := T.fn 40
theorem f_extended (T : Top w K mg) : ∃ fd, FnP K d_extended fd := T.fn 41
theorem f_paths_of (T : Top w K mg) : ∃ fd, FnP K d_paths_of fd := T.fn 42
theorem f_node_paths (T : Top w K mg) : ∃ fd, FnP K d_node_paths fd := T.fn 43
theorem f_expression_manifest (T : Top w K mg) : ∃ fd, FnP K d_expression_manifest fd := T.fn 44
theorem f_root_uid (T : Top w K mg) : ∃ fd, FnP K d_root_uid fd := T.fn 45
theorem f_follow (T : Top w K mg) : ∃ fd, FnP K d_follow fd := T.fn 46
theorem f_ends (T : Top w K mg) : ∃ fd, FnP K d_ends fd := T.fn 47
theorem f_named_reads (T : Top w K mg) : ∃ fd, FnP K d_named_reads fd := T.fn 48
theorem f_hierarchy (T : Top w K mg) : ∃ fd, FnP K d_hierarchy fd := T.fn 49
theorem f_slice_of (T : Top w K mg) : ∃ fd, FnP K d_slice_of fd := T.fn 50
theorem f_in_scope (T : Top w K mg) : ∃ fd, FnP K d_in_scope fd := T.fn 51
theorem f_condition_state (T : Top w K mg) : ∃ fd, FnP K d_condition_state fd := T.fn 52
theorem f_policy_state (T : Top w K mg) : ∃ fd, FnP K d_policy_state fd := T.fn 53
theorem f_fits (T : Top w K mg) : ∃ fd, FnP K d_fits fd := T.fn 54
theorem f_can_apply (T : Top w K mg) : ∃ fd, FnP K d_can_apply fd := T.fn 55
theorem f_decision (T : Top w K mg) : ∃ fd, FnP K d_decision fd := T.fn 56
theorem f_decide (T : Top w K mg) : ∃ fd, FnP K d_decide fd := T.fn 57
theorem f_join_manifests (T : Top w K mg) : ∃ fd, FnP K d_join_manifests fd := T.fn 58
theorem f_policy_manifest (T : Top w K mg) : ∃ fd, FnP K d_policy_manifest fd := T.fn 59
theorem f_manifest (T : Top w K mg) : ∃ fd, FnP K d_manifest fd := T.fn 60
theorem f_law_cell (T : Top w K mg) : ∃ fd, FnP K d_law_cell fd := T.fn 61
theorem f_law_digits (T : Top w K mg) : ∃ fd, FnP K d_law_digits fd := T.fn 62
theorem f_law_draw (T : Top w K mg) : ∃ fd, FnP K d_law_draw fd := T.fn 63
theorem f_law_name (T : Top w K mg) : ∃ fd, FnP K d_law_name fd := T.fn 64
theorem f_law_pool (T : Top w K mg) : ∃ fd, FnP K d_law_pool fd := T.fn 65
theorem f_law_uids (T : Top w K mg) : ∃ fd, FnP K d_law_uids fd := T.fn 66
theorem f_law_scope (T : Top w K mg) : ∃ fd, FnP K d_law_scope fd := T.fn 67
theorem f_law_key (T : Top w K mg) : ∃ fd, FnP K d_law_key fd := T.fn 68
theorem f_law_set (T : Top w K mg) : ∃ fd, FnP K d_law_set fd := T.fn 69
theorem f_law_number (T : Top w K mg) : ∃ fd, FnP K d_law_number fd := T.fn 70
theorem f_law_text (T : Top w K mg) : ∃ fd, FnP K d_law_text fd := T.fn 71
theorem f_law_scalar (T : Top w K mg) : ∃ fd, FnP K d_law_scalar fd := T.fn 72
theorem f_law_value (T : Top w K mg) : ∃ fd, FnP K d_law_value fd := T.fn 73
theorem f_law_leaf (T : Top w K mg) : ∃ fd, FnP K d_law_leaf fd := T.fn 74
theorem f_law_pair (T : Top w K mg) : ∃ fd, FnP K d_law_pair fd := T.fn 75
theorem f_law_expression (T : Top w K mg) : ∃ fd, FnP K d_law_expression fd := T.fn 76
theorem f_law_kinds (T : Top w K mg) : ∃ fd, FnP K d_law_kinds fd := T.fn 77
theorem f_law_policy (T : Top w K mg) : ∃ fd, FnP K d_law_policy fd := T.fn 78
theorem f_law_policies (T : Top w K mg) : ∃ fd, FnP K d_law_policies fd := T.fn 79
theorem f_law_entities (T : Top w K mg) : ∃ fd, FnP K d_law_entities fd := T.fn 80
theorem f_law_request (T : Top w K mg) : ∃ fd, FnP K d_law_request fd := T.fn 81
theorem f_law_alike (T : Top w K mg) : ∃ fd, FnP K d_law_alike fd := T.fn 82
theorem f_law (T : Top w K mg) : ∃ fd, FnP K d_law fd := T.fn 83
theorem t_UNFIT (T : Top w K mg) (H : Hp) : SqT K H (He.ga K "UNFIT") [.int 34, .int 37] := He.tupB_ok (vs := [.int 34, .int 37]) (He.ba T.ex).1 H
theorem t_RANKS (T : Top w K mg) (H : Hp) : SqT K H (He.ga K "RANKS") [.str "truth", .str "number", .str "text", .str "entity"] := He.tupB_ok (vs := [.str "truth", .str "number", .str "text", .str "entity"]) (He.ba (He.ba T.ex).2).1 H
theorem t_ONE_OPERAND (T : Top w K mg) (H : Hp) : SqT K H (He.ga K "ONE_OPERAND") [.str "get", .str "has", .str "is", .str "not"] := He.tupB_ok (vs := [.str "get", .str "has", .str "is", .str "not"]) (He.ba (He.ba (He.ba T.ex).2).2).1 H
theorem t_TWO_OPERANDS (T : Top w K mg) (H : Hp) : SqT K H (He.ga K "TWO_OPERANDS") [.str "and", .str "or", .str "same", .str "less", .str "in", .str "contains"] := He.tupB_ok (vs := [.str "and", .str "or", .str "same", .str "less", .str "in", .str "contains"]) (He.ba (He.ba (He.ba (He.ba T.ex).2).2).2).1 H
theorem t_YES (T : Top w K mg) (H : Hp) : SqT K H (He.ga K "YES") [.str "truth", .bl true] := He.tupB_ok (vs := [.str "truth", .bl true]) (He.ba (He.ba (He.ba (He.ba (He.ba T.ex).2).2).2).2).1 H
theorem t_NO (T : Top w K mg) (H : Hp) : SqT K H (He.ga K "NO") [.str "truth", .bl false] := He.tupB_ok (vs := [.str "truth", .bl false]) (He.ba (He.ba (He.ba (He.ba (He.ba (He.ba T.ex).2).2).2).2).2).1 H
theorem t_WRONG_KIND (T : Top w K mg) (H : Hp) : SqT K H (He.ga K "WRONG_KIND") [.str "fails", .str "wrong kind"] := He.tupB_ok (vs := [.str "fails", .str "wrong kind"]) (He.ba (He.ba (He.ba (He.ba (He.ba (He.ba (He.ba T.ex).2).2).2).2).2).2).1 H
theorem t_NO_ENTITY (T : Top w K mg) (H : Hp) : SqT K H (He.ga K "NO_ENTITY") [.str "fails", .str "no entity"] := He.tupB_ok (vs := [.str "fails", .str "no entity"]) (He.ba (He.ba (He.ba (He.ba (He.ba (He.ba (He.ba (He.ba T.ex).2).2).2).2).2).2).2).1 H
theorem t_NO_ATTRIBUTE (T : Top w K mg) (H : Hp) : SqT K H (He.ga K "NO_ATTRIBUTE") [.str "fails", .str "no attribute"] := He.tupB_ok (vs := [.str "fails", .str "no attribute"]) (He.ba (He.ba (He.ba (He.ba (He.ba (He.ba (He.ba (He.ba (He.ba T.ex).2).2).2).2).2).2).2).2).1 H
theorem t_LAZY (T : Top w K mg) (H : Hp) : SqT K H (He.ga K "LAZY") [.str "and", .str "or", .str "if"] := He.tupB_ok (vs := [.str "and", .str "or", .str "if"]) (He.ba (He.ba (He.ba (He.ba (He.ba (He.ba (He.ba (He.ba (He.ba (He.ba T.ex).2).2).2).2).2).2).2).2).2).1 H
theorem t_NOWHERE (T : Top w K mg) (H : Hp) : SqT K H (He.ga K "NOWHERE") [.str "nowhere"] := He.tupB_ok (vs := [.str "nowhere"]) (He.ba (He.ba (He.ba (He.ba (He.ba (He.ba (He.ba (He.ba (He.ba (He.ba (He.ba T.ex).2).2).2).2).2).2).2).2).2).2).1 H
theorem t_OFF (T : Top w K mg) (H : Hp) : SqT K H (He.ga K "OFF") [.str "off"] := He.tupB_ok (vs := [.str "off"]) (He.ba (He.ba (He.ba (He.ba (He.ba (He.ba (He.ba (He.ba (He.ba (He.ba (He.ba (He.ba T.ex).2).2).2).2).2).2).2).2).2).2).2).1 H
theorem parts_vals (T : Top w K mg) : He.valsB K (He.ga K "PARTS") [("principal", .int 0), ("action", .int 1), ("resource", .int 2)] = true := (He.ba (He.ba (He.ba (He.ba (He.ba (He.ba (He.ba (He.ba (He.ba (He.ba (He.ba (He.ba (He.ba T.ex).2).2).2).2).2).2).2).2).2).2).2).2).1
theorem nodB_ok {K : PySem.W.Frag} {x : Str} (h : nodB K x = true) (H : Hp) : tyV K "tuple" (.ref (He.ga K x)) H := by
  unfold nodB at h
  refine .inr (.inl ⟨rfl, ?_⟩)
  split at h
  · rename_i c d sl q
    exact ⟨_, q, congrArg Value.type (of_decide_eq_true h), rfl⟩
  · cases h
theorem ty_RANKS (T : Top w K mg) (H : Hp) : tyV K "tuple" (.ref (He.ga K "RANKS")) H := nodB_ok (He.ba (He.ba (He.ba (He.ba (He.ba (He.ba (He.ba (He.ba (He.ba (He.ba (He.ba (He.ba (He.ba T.ex).2).2).2).2).2).2).2).2).2).2).2).2).2 H
end
end FF
set_option Elab.async false
set_option linter.all false
set_option maxRecDepth 100000
set_option maxHeartbeats 0

namespace FF
open PySem PySem.Spec PyProof.Rows L2
def lo0 : List Str := ["_wall", "is_name", "is_uid", "kind_of", "check_uid", "is_rising", "is_text", "is_scalar", "scalar_before", "is_value", "are_named", "value_named", "context_value", "_check_parents", "check_entity"]
def lo1 : List Str := ["operands", "starts", "join_reads", "truth", "ask", "_leaf", "_attribute", "_one", "_uids", "_within", "_two", "_roles", "_is_passed_on", "evaluate", "split_path"]
def lo2 : List Str := ["_extended", "_paths_of", "node_paths", "expression_manifest", "_root_uid", "follow", "_ends", "named_reads", "_hierarchy", "slice_of", "in_scope", "_condition_state", "policy_state", "_fits", "can_apply"]
def lo3 : List Str := ["_decision", "decide", "join_manifests", "policy_manifest", "manifest", "_law_cell", "_law_digits", "_law_draw", "_law_name", "_law_pool", "_law_uids", "_law_scope", "_law_key", "_law_set", "_law_number"]
def lo4 : List Str := ["_law_text", "_law_scalar", "_law_value", "_law_leaf", "_law_pair", "_law_expression", "_law_kinds", "_law_policy", "_law_policies", "_law_entities", "_law_request", "_law_alike", "FarError", "OutOfRange", "Database"]
def lo5 : List Str := ["Walk", "NAME_MOST", "NAME_SIGNS", "NUMBER_MOST", "TEXT_MOST", "SET_MOST", "UNFIT", "RANKS", "ENTITIES_MOST", "ATTRIBUTES_MOST", "PARENTS_MOST", "ONE_OPERAND", "TWO_OPERANDS", "YES", "NO"]
def lo6 : List Str := ["WRONG_KIND", "NO_ENTITY", "NO_ATTRIBUTE", "PARTS", "LAZY", "CONTEXT", "NOWHERE", "OFF"]
def lo : List Str := lo0 ++ lo1 ++ lo2 ++ lo3 ++ lo4 ++ lo5 ++ lo6
abbrev hdR : PySem.W.OpenRow := PySem.W.OpenLaw.row PySem.Challenge.rw_farfacts_k48_slices_decide_alike
def hdOb (s : PySem.W.SharedT) : He.AlT × Bool := (He.obsT fa fn ts (He.frG (HandSHeadRun.getT s) asL), exB (He.frG (HandSHeadRun.getT s) asL))
theorem hdOb_eq (s : PySem.W.SharedT) : hdOb s = hookM.obs s.abs := by
  have e : HandSHeadRun.getT s = s.abs.heap.get? := funext (HandSHeadRun.getT_eq s)
  unfold hdOb
  rw [e]
  rfl
abbrev qL : Program := PySem.W.view hdR.prog [112]
theorem hdRun0 (w : World) : HandSHeadRun.RunEq hdR qL hookM hdOb 20000 lo (w.withFollow "special-get-raises" false) := by
  intro os
  kernel_rfl
theorem hdRun1 (w : World) : HandSHeadRun.RunEq hdR qL hookM hdOb 20000 lo (w.withFollow "special-get-raises" true) := by
  intro os
  kernel_rfl
theorem hdRun (w : World) : HandSHeadRun.RunEq hdR qL hookM hdOb 20000 lo w := PySem.W.byRow2 "special-get-raises" (P := fun w => HandSHeadRun.RunEq hdR qL hookM hdOb 20000 lo w) hdRun0 hdRun1 w
end FF
set_option Elab.async false
set_option linter.all false
set_option maxRecDepth 100000
set_option maxHeartbeats 4000000
/-! bundles, wrappers of the call rules, data in the heap -/
namespace FF
open PySem PySem.Spec PyProof.Rows L2

/-- the def at f keeps sp at level k; ps its parameters, dvs what the defaults give -/
structure FOk (P : Program) (w : World) (K : PySem.W.Frag) (mg : Str → Option Value) (base : Heap) (k : Nat) (f : Addr) (ps : List Str) (dvs : List V) (sp : Sp) : Prop where
  ex : ∃ fd ds, FnOk P w K mg base CX0 k f fd ps sp ∧ Binds K fd ps ds ∧ Vals dvs ds
  kp : PySem.W.keepIn K (.ref f) = true

section
variable {X : Cx} {j k : Nat} {f C : Addr} {ps : List Str} {sp : Sp} {dvs : List V} {x m : Str} {p pos apos : Pos} {e o : Expr} {es : List Expr} {ta : TE} {t : TA}
theorem pe_u (h : FOk X.prog X.w X.K X.mg X.base j f ps dvs sp) (hr : Room k X.A) (hg : Gl X x) (hm : X.mg x = some (.ref f)) (ha : PA X (e :: es) t) (hjk : j ≤ k := by decide)
    (hdb : (x == ("__debug__" : Str)) = false := by decide) (he : starEach (e :: es) X.env = (false, eval e X.env) :: starEach es X.env := by rfl) (hpl : (backTo pos (starEach es X.env)).any (·.1) = false := by rfl) :
    PE X (.Call (.Name x p) (e :: es) [] pos) (tCall sp dvs E0 t) := by
  obtain ⟨⟨fd, ds, F, hb, hd⟩, kp⟩ := h
  exact pe_call F (hr.mono hjk) hg hm kp hb hd pass0 ha hdb he hpl
theorem pe_mU {pl : Sem Bool} (h : FOk X.prog X.w X.K X.mg X.base j f ps dvs sp) (hr : Room k X.A) (c : Cls X.K C) (hm : Meth X.K C m f) (he : PE X o ta) (ha : PA X (e :: es) t) (hjk : j ≤ k := by decide)
    (hst : starEach (e :: es) X.env = (false, eval e X.env) :: starEach es X.env := by rfl) (hpl : (backTo pos (starEach es X.env)).any (·.1) = false := by rfl)
    (ht : eval (.Call (.Attribute o m apos) (e :: es) [] pos) X.env = (do
      let ov ← eval o X.env
      standAt apos.atName
      let (f, first) ← holding [ov] (getMethod ov m pl)
      callWith pos f first (backTo pos (starEach (e :: es) X.env)) (backToKw pos (keywordEach [] X.env))) := by rfl) :
    PE X (.Call (.Attribute o m apos) (e :: es) [] pos) (tMeth C m sp dvs E0 ta t) := by
  obtain ⟨⟨fd, ds, F, hb, hd⟩, kp⟩ := h
  exact pe_meth he c hm F (hr.mono hjk) hb hd pass0 ha hst hpl ht
theorem pe_mU0 {pl : Sem Bool} (h : FOk X.prog X.w X.K X.mg X.base j f ps dvs sp) (hr : Room k X.A) (c : Cls X.K C) (hm : Meth X.K C m f) (he : PE X o ta) (hjk : j ≤ k := by decide)
    (ht : eval (.Call (.Attribute o m apos) [] [] pos) X.env = (do
      let ov ← eval o X.env
      standAt apos.atName
      let (f, first) ← holding [ov] (getMethod ov m pl)
      callWith pos f first (backTo pos (starEach [] X.env)) (backToKw pos (keywordEach [] X.env))) := by rfl) :
    PE X (.Call (.Attribute o m apos) [] [] pos) (tMeth C m sp dvs E0 ta tNil) := by
  obtain ⟨⟨fd, ds, F, hb, hd⟩, kp⟩ := h
  exact pe_meth0 he c hm F (hr.mono hjk) hb hd pass0 ht
theorem pe_mkU (h : FOk X.prog X.w X.K X.mg X.base j f ps dvs sp) (hr : Room k X.A) (M : Mk X.K C f) (hg : Gl X x) (hm : X.mg x = some (.ref C)) (ha : PA X (e :: es) t) (hjk : j + 1 ≤ k := by decide)
    (hdb : (x == ("__debug__" : Str)) = false := by decide) (he : starEach (e :: es) X.env = (false, eval e X.env) :: starEach es X.env := by rfl) (hpl : (backTo pos (starEach es X.env)).any (·.1) = false := by rfl) :
    PE X (.Call (.Name x p) (e :: es) [] pos) (tMake C sp dvs E0 t) := by
  obtain ⟨⟨fd, ds, F, hb, hd⟩, kp⟩ := h
  exact pe_make M F (hr.mono hjk) hg hm hb hd pass0 ha hdb he hpl
theorem pe_gint {i : Int} (hm : ∃ t, X.mg x = some (.int i t)) (hg : Gl X x := by rfl) (hd : (x == ("__debug__" : Str)) = false := by decide) : PE X (.Name x pos) (tC (.int i)) := by
  obtain ⟨t, h⟩ := hm
  exact pe_glob hg h ⟨t, rfl⟩ hd
theorem pe_gstr {z : Str} (hm : ∃ t, X.mg x = some (.str z t)) (hg : Gl X x := by rfl) (hd : (x == ("__debug__" : Str)) = false := by decide) : PE X (.Name x pos) (tC (.str z)) := by
  obtain ⟨t, h⟩ := hm
  exact pe_glob hg h ⟨t, rfl⟩ hd
theorem pe_gref {a : Addr} (hm : X.mg x = some (.ref a)) (hg : Gl X x := by rfl) (hd : (x == ("__debug__" : Str)) = false := by decide) : PE X (.Name x pos) (tC (.ref a)) := pe_glob hg hm rfl hd
end

section
variable {P : Program} {w : World} {K : PySem.W.Frag} {mg : Str → Option Value} {base : Heap}
/-- a def without defaults, its body walked -/
theorem mk_ok {d : He.DefD} {N ps : List Str} {k : Nat} {sp : Sp} (hf : ∃ fd, FnP K d fd) (S : FnScope N ps d.scope) (h0 : d.dfl = []) (hk : d.kwd = [])
    (hb : ∀ (kV doc pm : Value) (an : Option Addr) (cdv ct : Value) (us : List Value), us.length = ps.length → bindArgs (PySem.W.fnOf d.name d.qual d.params d.body d.scope .none kV doc pm an cdv ct) ⟨us, []⟩ = pure (ps.zip us))
    (len : ∀ vs H Q E, sp vs H Q E → vs.length = ps.length)
    (body : ∀ (f : Addr) (cdv : Value) (A : Around) (outer : List Env) (s : Shared) (H : Hp) (vs : List V) (Q : VK) (E : XK), Room k (A.deeper (envOfC d.qual d.scope s.heap.objs.size f cdv)) → sp vs H Q E →
      ∃ t, PSs (cxOf CX0 P w K mg base N d.qual d.scope f cdv A outer s H E).nox d.body t ∧ t { nx := fun _ H' => Q .non H', rt := Q } (start N vs) H) : FOk P w K mg base (k + 1) (He.fAd K d.at_) ps [] sp := by
  obtain ⟨fd, F⟩ := hf
  have F' : FunD K d.name d.qual d.params d.body d.scope [] (d.kws K) (He.fAd K d.at_) fd := by
    have e : d.dvs K = [] := by unfold He.DefD.dvs; rw [h0]; rfl
    rw [← e]
    exact F
  refine ⟨⟨fd, [], F'.ok S len fun cdv A outer s H vs Q E hr h => ?_, F'.bindsN hb, .nil⟩, F.kp⟩
  obtain ⟨t, h1, h2⟩ := body _ cdv A outer s H vs Q E hr h
  exact ⟨t, h1.nox, h2⟩
theorem FOk.mono {j k : Nat} {f : Addr} {ps : List Str} {dvs : List V} {sp : Sp} (h : FOk P w K mg base j f ps dvs sp) (hjk : j ≤ k) : FOk P w K mg base k f ps dvs sp := by
  obtain ⟨⟨fd, ds, F, hb, hd⟩, kp⟩ := h
  exact ⟨⟨fd, ds, F.mono hjk, hb, hd⟩, kp⟩
end
end FF
set_option Elab.async false
set_option linter.all false
set_option maxRecDepth 100000
set_option maxHeartbeats 4000000
/-! the data of the program as plain types, how they are written as PyData, what each def computes (the mirror) -/
namespace FF
open PySem

/-! ### texts cut at a sign -/
def cutAt (c : Nat) : List Nat → List Nat → List (List Nat)
  | acc, [] => [acc]
  | acc, x :: r => if x = c then acc :: cutAt c [] r else cutAt c (acc ++ [x]) r
def mkS (l : List Nat) : Str := ⟨l.toArray⟩
def splitC (c : Nat) (s : Str) : List Str := (cutAt c [] s.cps.toList).map mkS

/-! ### the data -/
inductive Scal where
  | tr (b : Bool) | nu (i : Int) | tx (s : Str) | en (u : Str)
  deriving DecidableEq
inductive Val where
  | sc (s : Scal) | st (l : List Scal)
  deriving DecidableEq
inductive Two where
  | and | or | same | less | isin | contains
  deriving DecidableEq
inductive One where
  | get | has | is_
  deriving DecidableEq
inductive Node where
  | value (v : Val) | prin | act | res | ctx (n : Str) | given (n : Str)
  | one (w : One) (i : Nat) (n : Str) | not_ (i : Nat)
  | two (w : Two) (i j : Nat) | ite (i j k : Nat)
inductive Read where
  | attr (u n : Str) | anc (u : Str)
  deriving DecidableEq
inductive Told where
  | gone | none | value (v : Val) | above (us : List Str)
  deriving DecidableEq
structure Ent where
  uid : Str
  attrs : List (Str × Val)
  par : List Str
inductive Scope where
  | any | is_ (u : Str) | in_ (u : Str) | kind (k : Str)
structure Pol where
  id : Str
  permit : Bool
  pr : Scope
  acts : Option (List Str)
  rs : Scope
  cond : List Node
structure Req where
  p : Str
  a : Str
  r : Str
  ctx : List (Str × Val)
inductive Out where
  | value (v : Val) | fails (w : Str)
  deriving DecidableEq
inductive St where
  | off | sat | unsat | fails (w : Str)
  deriving DecidableEq

/-! ### as PyData -/

def encScal : Scal → PyData
  | .tr b => .tuple [.str "truth", .bool b]
  | .nu i => .tuple [.str "number", .int i]
  | .tx s => .tuple [.str "text", .str s]
  | .en u => .tuple [.str "entity", .str u]
def encVal : Val → PyData
  | .sc s => encScal s
  | .st l => .tuple [.str "set", .tuple (l.map encScal)]
def Two.w : Two → Str
  | .and => "and" | .or => "or" | .same => "same" | .less => "less" | .isin => "in" | .contains => "contains"
def One.w : One → Str
  | .get => "get" | .has => "has" | .is_ => "is"
def encNode : Node → PyData
  | .value v => .tuple [.str "value", encVal v]
  | .prin => .tuple [.str "principal"]
  | .act => .tuple [.str "action"]
  | .res => .tuple [.str "resource"]
  | .ctx n => .tuple [.str "context", .str n]
  | .given n => .tuple [.str "given", .str n]
  | .one w i n => .tuple [.str w.w, .int i, .str n]
  | .not_ i => .tuple [.str "not", .int i]
  | .two w i j => .tuple [.str w.w, .int i, .int j]
  | .ite i j k => .tuple [.str "if", .int i, .int j, .int k]
def encExpr (e : List Node) : PyData := .tuple (e.map encNode)
def encStrs (l : List Str) : PyData := .tuple (l.map PyData.str)
def encPair (p : Str × Val) : PyData := .tuple [.str p.1, encVal p.2]
def encPairs (l : List (Str × Val)) : PyData := .tuple (l.map encPair)
def encRead : Read → PyData
  | .attr u n => .tuple [.str "attribute", .str u, .str n]
  | .anc u => .tuple [.str "ancestors", .str u]
def encTold : Told → PyData
  | .gone => .tuple [.str "gone"]
  | .none => .tuple [.str "none"]
  | .value v => .tuple [.str "value", encVal v]
  | .above us => .tuple [.str "above", encStrs us]
def encEnt (e : Ent) : PyData := .tuple [.str e.uid, encPairs e.attrs, encStrs e.par]
def encScope : Scope → PyData
  | .any => .tuple [.str "any"]
  | .is_ u => .tuple [.str "is", .str u]
  | .in_ u => .tuple [.str "in", .str u]
  | .kind k => .tuple [.str "kind", .str k]
def effW (b : Bool) : Str := if b then "permit" else "forbid"
def encActs : Option (List Str) → PyData
  | none => .none
  | some l => encStrs l
def encPol (p : Pol) : PyData := .tuple [.str p.id, .str (effW p.permit), encScope p.pr, encActs p.acts, encScope p.rs, encExpr p.cond]
def encReq (r : Req) : PyData := .tuple [.str r.p, .str r.a, .str r.r, encPairs r.ctx]
def encKind (k : Str × Str × Str) : PyData := .tuple [.str k.1, .str k.2.1, .str k.2.2]
def encOut : Out → PyData
  | .value v => .tuple [.str "value", encVal v]
  | .fails w => .tuple [.str "fails", .str w]
def encSt : St → PyData
  | .off => .tuple [.str "off"]
  | .sat => .tuple [.str "satisfied"]
  | .unsat => .tuple [.str "unsatisfied"]
  | .fails w => .tuple [.str "fails", .str w]
def encReads (l : List Read) : PyData := .list (l.map encRead)
abbrev Dec : Type := Bool × List Str × List (Str × Str)
def encDec (d : Dec) : PyData := .tuple [.bool d.1, encStrs d.2.1, .tuple (d.2.2.map fun q => .tuple [.str q.1, .str q.2])]
abbrev Man : Type := List Str × List Str
def encMan (m : Man) : PyData := .tuple [encStrs m.1, encStrs m.2]

/-! ### the mirror -/
/-- the first list, then what of the second is not in it -/
def joinL {α : Type} [DecidableEq α] (one two : List α) : List α := two.foldl (fun j r => if r ∈ j then j else j ++ [r]) one
def kindOf (u : Str) : Str := (splitC 58 u).headD Str.empty
def signOk (c : Nat) : Bool := (97 ≤ c && c ≤ 122) || (48 ≤ c && c ≤ 57)
def isName (s : Str) : Bool := decide (1 ≤ s.length) && (decide (s.length ≤ 12) && s.cps.toList.all signOk)
def isUid (s : Str) : Bool := match splitC 58 s with
  | [a, b] => isName a && isName b
  | _ => false
def valNamed (l : List (Str × Val)) (n : Str) : Option Val := (l.find? fun q => q.1 = n).map (·.2)
def find (es : List Ent) (u : Str) : Option Ent := es.find? fun e => e.uid = u
def parOf (es : List Ent) (u : Str) : List Str := match find es u with
  | some e => e.par
  | none => []
def bfs (par : Str → List Str) : Nat → List Str → Nat → List Str
  | 0, found, _ => found
  | n + 1, found, looked => match found[looked]? with
    | none => found
    | some x => bfs par n (joinL found (par x)) (looked + 1)
/-- texts by their signs -/
def sLt (a b : Str) : Bool := decide (a.cps.toList < b.cps.toList)
def ins (a : Str) : List Str → List Str
  | [] => [a]
  | b :: l => if sLt b a then b :: ins a l else a :: b :: l
def isort : List Str → List Str
  | [] => []
  | a :: l => ins a (isort l)
def anc (es : List Ent) (u : Str) : List Str := isort ((bfs (parOf es) 60 [u] 0).drop 1)
def tell (es : List Ent) : Read → Told
  | .anc u => .above (anc es u)
  | .attr u n => match find es u with
    | none => .gone
    | some e => match valNamed e.attrs n with
      | none => .none
      | some v => .value v
def truth (b : Bool) : Out := .value (.sc (.tr b))
def wrongKind : Out := .fails "wrong kind"
def ops : Node → List Nat
  | .one _ i _ => [i]
  | .not_ i => [i]
  | .two _ i j => [i, j]
  | .ite i j k => [i, j, k]
  | _ => []
def startsGo : List Node → List Nat → List Nat
  | [], pl => pl
  | nd :: r, pl => startsGo r (pl ++ [match ops nd with
    | o :: _ => pl.getD o 0
    | [] => pl.length])
def starts (e : List Node) : List Nat := startsGo e []
abbrev Role : Type := Option (Nat × Nat)
def setOps (place : Nat) : List Nat → Nat → List Role → List Role
  | [], _, rs => rs
  | o :: r, n, rs => setOps place r (n + 1) (rs.set o (some (place, n)))
def rolesGo : List Node → Nat → List Role → List Role
  | [], _, rs => rs
  | nd :: r, place, rs => rolesGo r (place + 1) (setOps place (ops nd) 0 rs)
def roles (e : List Node) : List Role := rolesGo e 0 (List.replicate e.length none)
def leafOut (rq : Req) : Node → Out
  | .value v => .value v
  | .prin => .value (.sc (.en rq.p))
  | .act => .value (.sc (.en rq.a))
  | .res => .value (.sc (.en rq.r))
  | .ctx n => match valNamed rq.ctx n with
    | none => .fails "no attribute"
    | some v => .value v
  | .given n => truth (valNamed rq.ctx n).isSome
  | _ => wrongKind
def uidsOf : Val → Option (List Str)
  | .sc (.en u) => some [u]
  | .sc _ => none
  | .st l => l.mapM fun s => match s with
    | .en u => some u
    | _ => none
/-- the outcome of get, has, is upon a value, and what was asked -/
def oneOut (tl : Read → Told) (w : One) (n : Str) : Val → Out × Option Read
  | .sc (.en u) => match w with
    | .is_ => (truth (kindOf u = n), none)
    | .has => (truth (match tl (.attr u n) with | .value _ => true | _ => false), some (.attr u n))
    | .get => (match tl (.attr u n) with
      | .value v => .value v
      | .gone => .fails "no entity"
      | _ => .fails "no attribute", some (.attr u n))
  | _ => (wrongKind, none)
def notOut : Val → Out
  | .sc (.tr b) => truth (!b)
  | _ => wrongKind
def aboveOf : Told → List Str
  | .above us => us
  | _ => []
def inOut (tl : Read → Told) (a b : Val) : Out × Option Read := match a, uidsOf b with
  | .sc (.en u), some us => if u ∈ us then (truth true, none) else if us = [] then (truth false, none) else
      (truth (us.any fun x => decide (x ∈ aboveOf (tl (.anc u)))), some (.anc u))
  | _, _ => (wrongKind, none)
def twoOut (tl : Read → Told) (w : Two) (a b : Val) : Out × Option Read := match w with
  | .same => (truth (a = b), none)
  | .less => (match a, b with
    | .sc (.nu i), .sc (.nu j) => truth (i < j)
    | _, _ => wrongKind, none)
  | .contains => (match a, b with
    | .st l, .sc s => truth (s ∈ l)
    | _, _ => wrongKind, none)
  | .isin => inOut tl a b
  | _ => (match b with
    | .sc (.tr c) => truth c
    | _ => wrongKind, none)
abbrev Vals' : Type := List (Option Val)
def noteRead (rs : List Read) : Option Read → List Read
  | none => rs
  | some r => if r ∈ rs then rs else rs ++ [r]
/-- the outcome of a node whose operands have values -/
def nodeOut (tl : Read → Told) (rq : Req) (vals : Vals') : Node → Out × Option Read
  | .one w i n => match vals.getD i none with
    | some v => oneOut tl w n v
    | none => (wrongKind, none)
  | .not_ i => match vals.getD i none with
    | some v => (notOut v, none)
    | none => (wrongKind, none)
  | .two w i j => match vals.getD i none, vals.getD j none with
    | some a, some b => twoOut tl w a b
    | _, _ => (wrongKind, none)
  | nd => (leafOut rq nd, none)
def isIte : Node → Bool
  | .ite _ _ _ => true
  | _ => false
def isLazy : Node → Bool
  | .ite _ _ _ => true
  | .two .and _ _ => true
  | .two .or _ _ => true
  | _ => false
def passedOn (nd : Node) (n : Nat) (v : Val) : Bool := match nd with
  | .ite _ _ _ => decide (0 < n)
  | .two .and _ _ => decide (n = 0) && decide (v = .sc (.tr false))
  | .two .or _ _ => decide (n = 0) && decide (v = .sc (.tr true))
  | _ => false
def isTruth : Val → Bool
  | .sc (.tr _) => true
  | _ => false
/-- the last node whose value is known by that of at (none: a truth is missing on the way), and the values -/
def settle (e : List Node) (rl : List Role) : Nat → Nat → Vals' → Option Nat × Vals'
  | 0, at_, vals => (some at_, vals)
  | f + 1, at_, vals => match rl.getD at_ none, vals.getD at_ none with
    | some (p, n), some v =>
      if isLazy (e.getD p .prin) && (decide (n = 0) && !isTruth v) then (none, vals)
      else if passedOn (e.getD p .prin) n v then settle e rl f p (vals.set p (some v)) else (some at_, vals)
    | _, _ => (some at_, vals)
def behind (e : List Node) (rl : List Role) (st : List Nat) (vals : Vals') (at_ : Nat) : Nat := match rl.getD at_ none with
  | some (p, n) => match e.getD p .prin with
    | .ite _ _ k => if n = 0 ∧ vals.getD at_ none = some (.sc (.tr false)) then st.getD k 0 else at_ + 1
    | _ => at_ + 1
  | none => at_ + 1
def run (e : List Node) (rq : Req) (tl : Read → Told) : Nat → Nat → Vals' → List Read → Out × List Read
  | 0, _, _, rs => (wrongKind, rs)
  | f + 1, at_, vals, rs => match nodeOut tl rq vals (e.getD at_ .prin) with
    | (.fails w, q) => (.fails w, noteRead rs q)
    | (.value v, q) => match settle e (roles e) e.length at_ (vals.set at_ (some v)) with
      | (none, _) => (wrongKind, noteRead rs q)
      | (some s, vals2) => match (roles e).getD s none with
        | none => (match vals2.getD s none with
          | some v => .value v
          | none => wrongKind, noteRead rs q)
        | some _ => run e rq tl f (behind e (roles e) (starts e) vals2 s) vals2 (noteRead rs q)
def evalM (e : List Node) (rq : Req) (tl : Read → Told) : Out × List Read := run e rq tl (e.length + 1) 0 (List.replicate e.length none) []
/-- within a scope, and what was read -/
def inScope (sc : Scope) (u : Str) (tl : Read → Told) : Bool × List Read := match sc with
  | .any => (true, [])
  | .kind k => (decide (kindOf u = k), [])
  | .is_ v => (decide (v = u), [])
  | .in_ v => if v = u then (true, []) else (decide (v ∈ aboveOf (tl (.anc u))), [.anc u])
def condSt : Out → St
  | .value (.sc (.tr true)) => .sat
  | .value (.sc (.tr false)) => .unsat
  | .value _ => .fails "wrong kind"
  | .fails w => .fails w
def actOk (p : Pol) (a : Str) : Bool := match p.acts with
  | none => true
  | some l => decide (a ∈ l)
def polSt (p : Pol) (rq : Req) (tl : Read → Told) : St × List Read :=
  if actOk p rq.a = false then (.off, []) else
  let a := inScope p.pr rq.p tl
  if a.1 = false then (.off, joinL [] a.2) else
  let b := inScope p.rs rq.r tl
  if b.1 = false then (.off, joinL (joinL [] a.2) b.2) else
  let c := evalM p.cond rq tl
  (condSt c.1, joinL (joinL (joinL [] a.2) b.2) c.2)
def permits (l : List (Pol × St)) : List Str := l.filterMap fun q => match q.2 with
  | .sat => if q.1.permit then some q.1.id else none
  | _ => none
def forbids (l : List (Pol × St)) : List Str := l.filterMap fun q => match q.2 with
  | .sat => if q.1.permit then none else some q.1.id
  | _ => none
def failures (l : List (Pol × St)) : List (Str × Str) := l.filterMap fun q => match q.2 with
  | .fails w => some (q.1.id, w)
  | _ => none
def decisionM (l : List (Pol × St)) : Dec :=
  if forbids l = [] then (decide (0 < (permits l).length), permits l, failures l) else (false, forbids l, failures l)
def decideM (ps : List Pol) (rq : Req) (tl : Read → Told) : Dec × List Read :=
  (decisionM (ps.map fun p => (p, (polSt p rq tl).1)), ps.foldl (fun r p => joinL r (polSt p rq tl).2) [])
def fits (sc : Scope) (k : Str) : Bool := match sc with
  | .is_ u => decide (kindOf u = k)
  | .kind q => decide (q = k)
  | _ => true
def canApply (p : Pol) (k : Str × Str × Str) : Bool := actOk p k.2.1 && (fits p.pr k.1 && fits p.rs k.2.2)
/-! paths, manifests -/
def dot (a b : Str) : Str := a ++ (("." : Str) ++ b)
def extd (ps : List Str) (n : Str) : List Str := ps.map fun p => p ++ "." ++ n
def pathsOf (known : List (List Str)) : Node → List Str
  | .value (.sc (.en u)) => [u]
  | .prin => ["principal"]
  | .act => ["action"]
  | .res => ["resource"]
  | .ctx n => [("context" : Str) ++ "." ++ n]
  | .one .get i n => extd (known.getD i []) n
  | .ite _ j k => joinL (known.getD j []) (known.getD k [])
  | _ => []
def nodePathsGo : List Node → List (List Str) → List (List Str)
  | [], known => known
  | nd :: r, known => nodePathsGo r (known ++ [pathsOf known nd])
def nodePaths (e : List Node) : List (List Str) := nodePathsGo e []
def exprManStep (known : List (List Str)) (m : Man) : Node → Man
  | .one .get i n => (joinL m.1 (extd (known.getD i []) n), m.2)
  | .one .has i n => (joinL m.1 (extd (known.getD i []) n), m.2)
  | .two .isin i _ => (m.1, joinL m.2 (known.getD i []))
  | _ => m
def exprMan (e : List Node) : Man := e.foldl (exprManStep (nodePaths e)) ([], [])
def joinMan (l : List Man) : Man := l.foldl (fun m t => (joinL m.1 t.1, joinL m.2 t.2)) ([], [])
def isIn : Scope → Bool
  | .in_ _ => true
  | _ => false
def scopesOf (p : Pol) : List Str := (if isIn p.pr then [("principal" : Str)] else []) ++ (if isIn p.rs then [("resource" : Str)] else [])
def polMan (p : Pol) : Man := joinMan [([], scopesOf p), exprMan p.cond]
def manM (ps : List Pol) (k : Str × Str × Str) : Man := joinMan ((ps.filter fun p => canApply p k).map polMan)
def splitPath (path : Str) : Str × List Str := match splitC 46 path with
  | a :: b :: r => if a = "context" then (("context" : Str) ++ "." ++ b, r) else (a, b :: r)
  | a :: [] => (a, [])
  | [] => (Str.empty, [])
def rootUid (root : Str) (rq : Req) : Option Str :=
  if isUid root then some root else if root = "principal" then some rq.p else if root = "action" then some rq.a else if root = "resource" then some rq.r else
  match valNamed rq.ctx ((splitC 46 root).getD 1 Str.empty) with
  | some (.sc (.en u)) => some u
  | _ => none
def followGo (tl : Read → Told) : List Str → Str → Option Str
  | [], u => some u
  | n :: r, u => match tl (.attr u n) with
    | .value (.sc (.en v)) => followGo tl r v
    | _ => none
def follow (root : Str) (names : List Str) (rq : Req) (tl : Read → Told) : Option Str := match rootUid root rq with
  | none => none
  | some u => followGo tl names u
def endAttr (rq : Req) (tl : Read → Told) (path : Str) : Option Read :=
  (follow (splitPath path).1 (splitPath path).2.dropLast rq tl).map fun u => .attr u ((splitPath path).2.getLastD Str.empty)
def endAnc (rq : Req) (tl : Read → Told) (path : Str) : Option Read :=
  (follow (splitPath path).1 (splitPath path).2 rq tl).map fun u => .anc u
def endsM (m : Man) (rq : Req) (tl : Read → Told) : List Read := m.1.filterMap (endAttr rq tl) ++ m.2.filterMap (endAnc rq tl)
def namedM (m : Man) (rq : Req) (tl : Read → Told) : List Read := joinL [] (endsM m rq tl)
def hierM (es : List Ent) (rs : List Read) : List Str := rs.flatMap fun r => match r with
  | .anc u => u :: anc es u
  | _ => []
def namesFor (rs : List Read) (u : Str) : List Str := rs.filterMap fun r => match r with
  | .attr v n => if v = u then some n else none
  | _ => none
def keepEnt (rs : List Read) (hier : List Str) (e : Ent) : Option Ent :=
  if namesFor rs e.uid = [] ∧ e.uid ∉ hier then none else
  some ⟨e.uid, e.attrs.filter fun q => decide (q.1 ∈ namesFor rs e.uid), if e.uid ∈ hier then e.par else []⟩
def sliceM (es : List Ent) (rq : Req) (m : Man) : List Ent :=
  let rs := namedM m rq (tell es)
  es.filterMap (keepEnt rs (hierM es rs))
end FF
set_option Elab.async false
set_option linter.all false
set_option maxRecDepth 100000
set_option maxHeartbeats 4000000
/-! data in the heap; rules joined -/
namespace FF
open PySem PySem.Spec PyProof.Rows L2

section
variable {X : Cx}
/-- walked: a list, or a tuple -/
theorem pi_or {tg l : Expr} {w1 w2 : TI} (h1 : PI X tg l w1) (h2 : PI X tg l w2) : PI X tg l (fun σ H R => w1 σ H R ∨ w2 σ H R) := ⟨fun pins s σ H R I h => by
  rcases h with h | h
  · exact h1.run pins s σ H R I h
  · exact h2.run pins s σ H R I h⟩
def rSlAny (K : PySem.W.Frag) : V → Option Int → Option Int → Hp → VK → Prop := fun x lo hi H Q => rSlL K x lo hi H Q ∨ (rSlA K x lo hi H Q ∨ rSlS x lo hi H Q)
theorem sl_any : SlR X (rSlAny X.K) := sl_list.or (sl_tupA.or sl_str)
end

section
variable {K : PySem.W.Frag} {H H' : Hp} {v : V} {d d1 d2 d3 d4 d5 d6 : PyData}
theorem dp_tup {ds : List PyData} (h : Dp K H v (.tuple ds)) : ∃ a xs, v = .ref a ∧ SqT K H a xs ∧ DpAll K H xs ds := by
  cases h with
  | tup h1 h2 => exact ⟨_, _, rfl, h1, h2⟩
theorem dp_lst {ds : List PyData} (h : Dp K H v (.list ds)) : ∃ a xs, v = .ref a ∧ SqL K H a xs ∧ DpAll K H xs ds := by
  cases h with
  | lst h1 h2 => exact ⟨_, _, rfl, h1, h2⟩
theorem dpS {x : Str} (h : Dp K H v (.str x)) : v = .str x := by cases h; rfl
theorem dpI {x : Int} (h : Dp K H v (.int x)) : v = .int x := by cases h; rfl
theorem dpB {x : Bool} (h : Dp K H v (.bool x)) : v = .bl x := by cases h; rfl
theorem dpN (h : Dp K H v .none) : v = .non := by cases h; rfl
theorem dp1 (h : Dp K H v (.tuple [d1])) : ∃ a x, v = .ref a ∧ SqT K H a [x] ∧ Dp K H x d1 := by
  obtain ⟨a, xs, rfl, h1, h2⟩ := dp_tup h
  cases h2 with
  | cons q1 q2 => cases q2; exact ⟨_, _, rfl, h1, q1⟩
theorem dp2 (h : Dp K H v (.tuple [d1, d2])) : ∃ a x y, v = .ref a ∧ SqT K H a [x, y] ∧ Dp K H x d1 ∧ Dp K H y d2 := by
  obtain ⟨a, xs, rfl, h1, h2⟩ := dp_tup h
  cases h2 with
  | cons q1 q2 => cases q2 with
    | cons q2 q3 => cases q3; exact ⟨_, _, _, rfl, h1, q1, q2⟩
theorem dp3 (h : Dp K H v (.tuple [d1, d2, d3])) : ∃ a x y z, v = .ref a ∧ SqT K H a [x, y, z] ∧ Dp K H x d1 ∧ Dp K H y d2 ∧ Dp K H z d3 := by
  obtain ⟨a, xs, rfl, h1, h2⟩ := dp_tup h
  cases h2 with
  | cons q1 q2 => cases q2 with
    | cons q2 q3 => cases q3 with
      | cons q3 q4 => cases q4; exact ⟨_, _, _, _, rfl, h1, q1, q2, q3⟩
theorem dp4 (h : Dp K H v (.tuple [d1, d2, d3, d4])) : ∃ a x y z u, v = .ref a ∧ SqT K H a [x, y, z, u] ∧ Dp K H x d1 ∧ Dp K H y d2 ∧ Dp K H z d3 ∧ Dp K H u d4 := by
  obtain ⟨a, xs, rfl, h1, h2⟩ := dp_tup h
  cases h2 with
  | cons q1 q2 => cases q2 with
    | cons q2 q3 => cases q3 with
      | cons q3 q4 => cases q4 with
        | cons q4 q5 => cases q5; exact ⟨_, _, _, _, _, rfl, h1, q1, q2, q3, q4⟩
theorem dp6 (h : Dp K H v (.tuple [d1, d2, d3, d4, d5, d6])) : ∃ a x y z u r t, v = .ref a ∧ SqT K H a [x, y, z, u, r, t] ∧ Dp K H x d1 ∧ Dp K H y d2 ∧ Dp K H z d3 ∧ Dp K H u d4 ∧ Dp K H r d5 ∧ Dp K H t d6 := by
  obtain ⟨a, xs, rfl, h1, h2⟩ := dp_tup h
  cases h2 with
  | cons q1 q2 => cases q2 with
    | cons q2 q3 => cases q3 with
      | cons q3 q4 => cases q4 with
        | cons q4 q5 => cases q5 with
          | cons q5 q6 => cases q6 with
            | cons q6 q7 => cases q7; exact ⟨_, _, _, _, _, _, _, rfl, h1, q1, q2, q3, q4, q5, q6⟩
theorem dpAll_len : ∀ {xs : List V} {ds : List PyData}, DpAll K H xs ds → xs.length = ds.length
  | _, _, .nil => rfl
  | _, _, .cons _ t => by rw [List.length_cons, List.length_cons, dpAll_len t]
theorem dpAll_get : ∀ {xs : List V} {ds : List PyData} {i : Nat} {d : PyData}, DpAll K H xs ds → ds[i]? = some d → ∃ v, xs[i]? = some v ∧ Dp K H v d
  | _, _, 0, _, .cons h _, e => by
    simp at e
    subst e
    exact ⟨_, rfl, h⟩
  | _, _, i + 1, d, .cons _ t, e => by
    obtain ⟨v, h1, h2⟩ := dpAll_get (i := i) (d := d) t (by simpa using e)
    exact ⟨v, by simpa using h1, h2⟩
theorem dpAll_at : ∀ {xs : List V} {ds : List PyData} {i : Nat} {v : V}, DpAll K H xs ds → xs[i]? = some v → ∃ d, ds[i]? = some d ∧ Dp K H v d
  | _, _, 0, _, .cons h _, e => by
    simp at e
    subst e
    exact ⟨_, rfl, h⟩
  | _, _, i + 1, v, .cons _ t, e => by
    obtain ⟨d, h1, h2⟩ := dpAll_at (i := i) (v := v) t (by simpa using e)
    exact ⟨d, by simpa using h1, h2⟩
theorem dpAll_app : ∀ {xs ys : List V} {ds es : List PyData}, DpAll K H xs ds → DpAll K H ys es → DpAll K H (xs ++ ys) (ds ++ es)
  | _, _, _, _, .nil, h => h
  | _, _, _, _, .cons h t, q => .cons h (dpAll_app t q)
theorem dpAll_one {x : V} (h : Dp K H x d) : DpAll K H [x] [d] := .cons h .nil
theorem dpAll_take : ∀ {xs : List V} {ds : List PyData} (n : Nat), DpAll K H xs ds → DpAll K H (xs.take n) (ds.take n)
  | _, _, 0, _ => .nil
  | _, _, _ + 1, .nil => .nil
  | _, _, n + 1, .cons h t => .cons h (dpAll_take n t)
theorem dpAll_drop : ∀ {xs : List V} {ds : List PyData} (n : Nat), DpAll K H xs ds → DpAll K H (xs.drop n) (ds.drop n)
  | _, _, 0, h => h
  | _, _, _ + 1, .nil => .nil
  | _, _, n + 1, .cons _ t => dpAll_drop n t
/-- a row of texts is known -/
theorem dpAll_strs : ∀ {xs : List V} {ss : List Str}, DpAll K H xs (ss.map PyData.str) → xs = ss.map V.str
  | _, [], h => by cases h; rfl
  | _, s :: ss, h => by
    cases h with
    | cons h1 h2 =>
      rw [dpS h1, dpAll_strs h2]
      rfl
theorem dpAll_ofStrs : ∀ (ss : List Str), DpAll K H (ss.map V.str) (ss.map PyData.str)
  | [] => .nil
  | s :: ss => .cons (.str s) (dpAll_ofStrs ss)
theorem rd_same {a : Addr} {u : HO} (e : Same H H') (h : Rd H a u) : Rd H' a u := by
  rcases h with h | ⟨o, h⟩
  · exact .inl (e a _ h)
  · exact .inr ⟨o, e a _ h⟩
theorem sqT_same {a : Addr} {xs : List V} (e : Same H H') (h : SqT K H a xs) : SqT K H' a xs := by
  rcases h with h | h
  · exact .inl (rd_same e h)
  · exact .inr h
theorem sqL_same {a : Addr} {xs : List V} (e : Same H H') (h : SqL K H a xs) : SqL K H' a xs := e.seq h
mutual
theorem dp_same (e : Same H H') : ∀ {v : V} {d : PyData}, Dp K H v d → Dp K H' v d
  | _, _, .non => .non
  | _, _, .bl b => .bl b
  | _, _, .int i => .int i
  | _, _, .str s => .str s
  | _, _, .lst h1 h2 => .lst (sqL_same e h1) (dpAll_same e h2)
  | _, _, .tup h1 h2 => .tup (sqT_same e h1) (dpAll_same e h2)
theorem dpAll_same (e : Same H H') : ∀ {vs : List V} {ds : List PyData}, DpAll K H vs ds → DpAll K H' vs ds
  | _, _, .nil => .nil
  | _, _, .cons h1 h2 => .cons (dp_same e h1) (dpAll_same e h2)
end
/-- tuples stand -/
def Tps (H H' : Hp) : Prop := ∀ a xs, Rd H a (.tup xs) → Rd H' a (.tup xs)
mutual
def noL : PyData → Bool
  | .list _ => false
  | .dict _ => false
  | .tuple xs => noLs xs
  | _ => true
def noLs : List PyData → Bool
  | [] => true
  | x :: r => noL x && noLs r
end
theorem sqT_tps {a : Addr} {xs : List V} (e : Tps H H') (h : SqT K H a xs) : SqT K H' a xs := by
  rcases h with h | h
  · exact .inl (e a xs h)
  · exact .inr h
mutual
theorem dp_tps (e : Tps H H') : ∀ {v : V} {d : PyData}, noL d = true → Dp K H v d → Dp K H' v d
  | _, _, _, .non => .non
  | _, _, _, .bl b => .bl b
  | _, _, _, .int i => .int i
  | _, _, _, .str s => .str s
  | _, _, h, .lst h1 h2 => by cases h
  | _, _, h, .tup h1 h2 => .tup (sqT_tps e h1) (dpAll_tps e (by simpa [noL] using h) h2)
theorem dpAll_tps (e : Tps H H') : ∀ {vs : List V} {ds : List PyData}, noLs ds = true → DpAll K H vs ds → DpAll K H' vs ds
  | _, _, _, .nil => .nil
  | _, d :: ds, h, .cons h1 h2 => by
    have h' : noL d = true ∧ noLs ds = true := by simpa [noLs] using h
    exact .cons (dp_tps e h'.1 h1) (dpAll_tps e h'.2 h2)
end
theorem same_new {p : Addr} {o : HO} (h : H p = none) : Same H (upd H p o) := fun a u e => by
  rw [upd_ne (ne_of_none e h)]
  exact e
theorem same_mut {p : Addr} {o : HO} (e : Same H H') (h : H p = none) : Same H (upd H' p o) := fun a u ha => by
  rw [upd_ne (ne_of_none ha h)]
  exact e a u ha
theorem dp_new {p : Addr} {xs : List V} {ds : List PyData} (h : H p = none) (hx : DpAll K H xs ds) : Dp K (upd H p (.tup xs)) (.ref p) (.tuple ds) := .tup (SqT.of upd_same) (dpAll_same (same_new h) hx)
theorem dp_newL {p : Addr} {xs : List V} {ds : List PyData} (h : H p = none) (hx : DpAll K H xs ds) : Dp K (upd H p (.lst xs)) (.ref p) (.list ds) := .lst (SqL.of upd_same) (dpAll_same (same_new h) hx)
/-- all but x stands -/
def But (x : Addr) (H H' : Hp) : Prop := ∀ a u, a ≠ x → H a = some u → H' a = some u
theorem But.refl (x : Addr) (H : Hp) : But x H H := fun _ _ _ h => h
theorem But.trans {x : Addr} {H H1 H2 : Hp} (a : But x H H1) (b : But x H1 H2) : But x H H2 := fun c o n h => b c o n (a c o n h)
theorem But.of {x : Addr} {H H' : Hp} (e : Same H H') : But x H H' := fun c o _ h => e c o h
theorem But.put {x : Addr} {H H' : Hp} {o : HO} (e : But x H H') : But x H (upd H' x o) := fun c u n h => by
  rw [upd_ne n]
  exact e c u n h
theorem But.tps {x : Addr} {ys : List V} (e : But x H H') (hx : H x = some (.lst ys)) : Tps H H' := fun a xs h => by
  have key : ∀ u, H a = some u → (∀ ys, u ≠ .lst ys) → H' a = some u := fun u hu hn => e a u (fun z => by rw [z, hx] at hu; cases hu; exact hn _ rfl) hu
  rcases h with h | ⟨o, h⟩
  · exact .inl (key _ h (by intro ys q; cases q))
  · exact .inr ⟨o, key _ h (by intro ys q; cases q)⟩
theorem Same.tps (e : Same H H') : Tps H H' := fun a xs h => rd_same e h
/-- a list at another place stands -/
theorem But.lst {x a : Addr} {xs : List V} (e : But x H H') (n : a ≠ x) (h : SqL K H a xs) : SqL K H' a xs := by
  rcases h with h | h
  · rcases h with h | ⟨o, h⟩
    · exact .inl (.inl (e a _ n h))
    · exact .inl (.inr ⟨o, e a _ n h⟩)
  · exact .inr h
/-- readings of a subscript -/
theorem rixL {p : Addr} {xs : List V} {i : Int} {v : V} {Q : VK} (h : SqL K H p xs) (ha : atI xs i = some v) (q : Q v H) : rIx K (.ref p) (.int i) H Q := .inl ⟨p, xs, i, v, rfl, rfl, h, ha, q⟩
theorem rixT {p : Addr} {xs : List V} {i : Int} {v : V} {Q : VK} (h : SqT K H p xs) (ha : atI xs i = some v) (q : Q v H) : rIx K (.ref p) (.int i) H Q := .inr (.inl ⟨p, xs, i, v, rfl, rfl, h, ha, q⟩)
theorem rixS {z : Str} {i : Int} {c : Nat} {Q : VK} (h : z.length ≤ sizeLine) (ha : atI z.cps.toList i = some c) (q : Q (.str ⟨#[c]⟩) H) : rIx K (.str z) (.int i) H Q := .inr (.inr ⟨z, i, c, rfl, rfl, h, ha, q⟩)
theorem lenL {p : Addr} {xs : List V} (h : SqL K H p xs) : LenV K (.ref p) H xs.length := .inl ⟨xs, h, rfl⟩
theorem lenT {p : Addr} {xs : List V} (h : SqT K H p xs) : LenV K (.ref p) H xs.length := .inr ⟨xs, h, rfl⟩
theorem lenS {z : Str} (h : z.length ≤ sizeLine) : LenV K (.str z) H z.length := ⟨h, rfl⟩
theorem szl {n : Nat} (h : n ≤ 100000) : n ≤ sizeLine := Nat.le_trans h (by decide)
theorem szlt {n : Nat} (h : n < 100000) : n < sizeLine := Nat.lt_of_lt_of_le h (by decide)
end
end FF
set_option Elab.async false
set_option linter.all false
set_option maxHeartbeats 1000000
/-! the mathematics: texts, paths -/
namespace FF
open PySem

abbrev sg (s : Str) : List Nat := s.cps.toList
theorem sg_append (a b : Str) : sg (a ++ b) = sg a ++ sg b := TL.tl_append a b
theorem sg_ext {a b : Str} (h : sg a = sg b) : a = b := TL.ext_tl h
theorem sg_mk (l : List Nat) : sg (mkS l) = l := rfl
theorem mk_sg (s : Str) : mkS (sg s) = s := sg_ext rfl
theorem sg_dot : sg (("." : Str)) = [46] := by decide +kernel
theorem sg_colon : sg ((":" : Str)) = [58] := by decide +kernel

theorem cut_no {c : Nat} : ∀ {l acc : List Nat}, c ∉ l → cutAt c acc l = [acc ++ l]
  | [], acc, _ => by simp [cutAt]
  | x :: r, acc, h => by
    have h1 : x ≠ c := fun e => h (by simp [e])
    have h2 : c ∉ r := fun e => h (by simp [e])
    simp [cutAt, h1, cut_no h2]
theorem cut_app {c : Nat} : ∀ (l acc m : List Nat), cutAt c acc (l ++ c :: m) = cutAt c acc l ++ cutAt c [] m
  | [], acc, m => by simp [cutAt]
  | x :: r, acc, m => by
    by_cases h : x = c
    · simp [cutAt, h, cut_app r [] m]
    · simp [cutAt, h, cut_app r (acc ++ [x]) m]
theorem cut_ne {c : Nat} : ∀ (l acc : List Nat), cutAt c acc l ≠ []
  | [], acc => by simp [cutAt]
  | x :: r, acc => by
    by_cases h : x = c
    · simp [cutAt, h]
    · simp [cutAt, h]; exact cut_ne r _
def glue (c : Nat) : List (List Nat) → List Nat
  | [] => []
  | [x] => x
  | x :: y :: r => x ++ c :: glue c (y :: r)
theorem glue_cut {c : Nat} : ∀ (l acc : List Nat), glue c (cutAt c acc l) = acc ++ l
  | [], acc => by simp [cutAt, glue]
  | x :: r, acc => by
    by_cases h : x = c
    · subst h
      have e := glue_cut (c := x) r []
      have n := cut_ne (c := x) r []
      simp only [cutAt, if_pos]
      cases q : cutAt x [] r with
      | nil => exact absurd q n
      | cons a b =>
        rw [q] at e
        simp only [glue, e]
        simp
    · simp only [cutAt, if_neg h]
      rw [glue_cut r (acc ++ [x])]
      simp
theorem split_no {c : Nat} {s : Str} (h : c ∉ sg s) : splitC c s = [s] := by
  unfold splitC
  rw [cut_no h]
  simp [mk_sg]
theorem split_app {c : Nat} (a b sep : Str) (hs : sg sep = [c]) (hb : c ∉ sg b) : splitC c (a ++ sep ++ b) = splitC c a ++ [b] := by
  unfold splitC
  have e : sg (a ++ sep ++ b) = sg a ++ c :: sg b := by rw [sg_append, sg_append, hs]; simp
  show List.map mkS (cutAt c [] (sg (a ++ sep ++ b))) = _
  rw [e, cut_app, cut_no hb]
  simp [mk_sg]
theorem split_two {c : Nat} {s x y : Str} (h : splitC c s = [x, y]) : sg s = sg x ++ c :: sg y := by
  unfold splitC at h
  have e := glue_cut (c := c) (sg s) []
  cases q : cutAt c [] (sg s) with
  | nil => rw [q] at h; simp at h
  | cons a r =>
    rw [q] at h e
    cases r with
    | nil => simp at h
    | cons b t =>
      cases t with
      | nil =>
        simp at h
        rw [← h.1, ← h.2, sg_mk, sg_mk]
        simpa [glue] using e.symm
      | cons d t => simp at h

theorem name_no {s : Str} (h : isName s = true) {c : Nat} (hc : signOk c = false) : c ∉ sg s := by
  intro hm
  unfold isName at h
  simp only [Bool.and_eq_true, List.all_eq_true] at h
  have := h.2.2 c hm
  rw [hc] at this
  cases this
theorem name_dot {s : Str} (h : isName s = true) : 46 ∉ sg s := name_no h (by decide)
theorem name_col {s : Str} (h : isName s = true) : 58 ∉ sg s := name_no h (by decide)
theorem uid_two {u : Str} (h : isUid u = true) : ∃ a b, splitC 58 u = [a, b] ∧ isName a = true ∧ isName b = true := by
  unfold isUid at h
  split at h
  · rename_i a b e
    simp only [Bool.and_eq_true] at h
    exact ⟨a, b, e, h⟩
  · cases h
theorem uid_sg {u : Str} (h : isUid u = true) : ∃ a b, sg u = sg a ++ 58 :: sg b ∧ isName a = true ∧ isName b = true := by
  obtain ⟨a, b, e, ha, hb⟩ := uid_two h
  exact ⟨a, b, split_two e, ha, hb⟩
theorem uid_dot {u : Str} (h : isUid u = true) : 46 ∉ sg u := by
  obtain ⟨a, b, e, ha, hb⟩ := uid_sg h
  rw [e]
  simp [name_dot ha, name_dot hb]
theorem uid_has {u : Str} (h : isUid u = true) : 58 ∈ sg u := by
  obtain ⟨a, b, e, ha, hb⟩ := uid_sg h
  rw [e]
  simp
theorem uid_mk {a b : Str} (ha : isName a = true) (hb : isName b = true) : splitC 58 (a ++ (":" : Str) ++ b) = [a, b] := by
  rw [split_app a b _ sg_colon (name_col hb), split_no (name_col ha)]
  rfl
theorem uid_ok {a b : Str} (ha : isName a = true) (hb : isName b = true) : isUid (a ++ (":" : Str) ++ b) = true := by
  unfold isUid
  rw [uid_mk ha hb]
  simp [ha, hb]

/-! ### paths -/
abbrev cx (n : Str) : Str := ("context" : Str) ++ "." ++ n
inductive IsPath : Str → Str → List Str → Prop
  | uid {u : Str} : isUid u = true → IsPath u u []
  | prin : IsPath "principal" "principal" []
  | act : IsPath "action" "action" []
  | res : IsPath "resource" "resource" []
  | ctx {n : Str} : isName n = true → IsPath (cx n) (cx n) []
  | ext {p r n : Str} {ns : List Str} : IsPath p r ns → isName n = true → IsPath (p ++ "." ++ n) r (ns ++ [n])
theorem sg_context : sg (("context" : Str)) = [99, 111, 110, 116, 101, 120, 116] := by decide +kernel
theorem split_cx {n : Str} (h : isName n = true) : splitC 46 (cx n) = [("context" : Str), n] := by
  rw [split_app _ _ _ sg_dot (name_dot h), split_no (by rw [sg_context]; decide)]
  rfl
theorem cx_no_uid {n : Str} (h : isName n = true) : isUid (cx n) = false := by
  have e : 58 ∉ sg (cx n) := by
    rw [sg_append, sg_append, sg_context, sg_dot]
    simp [name_col h]
  unfold isUid
  rw [split_no e]
theorem path_split {p r : Str} {ns : List Str} (h : IsPath p r ns) :
    (∃ b, r = cx b ∧ isName b = true ∧ splitC 46 p = ("context" : Str) :: b :: ns) ∨ (r ≠ ("context" : Str) ∧ splitC 46 p = r :: ns) := by
  induction h with
  | uid hu => 
    refine .inr ⟨fun e => ?_, split_no (uid_dot hu)⟩
    have := uid_has hu
    rw [e, sg_context] at this
    revert this
    decide
  | prin => exact .inr ⟨by decide +kernel, by decide +kernel⟩
  | act => exact .inr ⟨by decide +kernel, by decide +kernel⟩
  | res => exact .inr ⟨by decide +kernel, by decide +kernel⟩
  | ctx hn => exact .inl ⟨_, rfl, hn, split_cx hn⟩
  | ext _ hn ih =>
    rcases ih with ⟨b, e, hb, hs⟩ | ⟨e, hs⟩
    · refine .inl ⟨b, e, hb, ?_⟩
      rw [split_app _ _ _ sg_dot (name_dot hn), hs]
      rfl
    · refine .inr ⟨e, ?_⟩
      rw [split_app _ _ _ sg_dot (name_dot hn), hs]
      rfl
theorem path_sp {p r : Str} {ns : List Str} (h : IsPath p r ns) : splitPath p = (r, ns) := by
  rcases path_split h with ⟨b, e, hb, hs⟩ | ⟨e, hs⟩
  · unfold splitPath
    rw [hs, e]
    simp
  · unfold splitPath
    rw [hs]
    cases ns with
    | nil => rfl
    | cons a t => simp [e]
theorem IsPath.root {p r : Str} {ns : List Str} (h : IsPath p r ns) : IsPath r r [] := by
  induction h with
  | uid hu => exact .uid hu
  | prin => exact .prin
  | act => exact .act
  | res => exact .res
  | ctx hn => exact .ctx hn
  | ext _ _ ih => exact ih
theorem IsPath.names {p r : Str} {ns : List Str} (h : IsPath p r ns) : ∀ n ∈ ns, isName n = true := by
  induction h with
  | ext _ hn ih =>
    intro n hm
    rcases List.mem_append.mp hm with h | h
    · exact ih n h
    · rw [List.mem_singleton.mp h]; exact hn
  | _ => intro n hm; cases hm
theorem root_uid {u : Str} {rq : Req} (h : isUid u = true) : rootUid u rq = some u := by
  unfold rootUid; rw [if_pos h]
theorem root_prin {rq : Req} : rootUid "principal" rq = some rq.p := by
  unfold rootUid
  rw [if_neg (by decide +kernel), if_pos rfl]
theorem root_act {rq : Req} : rootUid "action" rq = some rq.a := by
  unfold rootUid
  rw [if_neg (by decide +kernel), if_neg (by decide +kernel), if_pos rfl]
theorem root_res {rq : Req} : rootUid "resource" rq = some rq.r := by
  unfold rootUid
  rw [if_neg (by decide +kernel), if_neg (by decide +kernel), if_neg (by decide +kernel), if_pos rfl]
theorem cx_ne {n s : Str} (h : 46 ∉ sg s) : cx n ≠ s := by
  intro e
  apply h
  rw [← e, sg_append, sg_append, sg_dot]
  simp
theorem root_ctx {n : Str} {rq : Req} (h : isName n = true) : rootUid (cx n) rq = match valNamed rq.ctx n with
  | some (.sc (.en u)) => some u
  | _ => none := by
  unfold rootUid
  rw [if_neg (by rw [cx_no_uid h]; exact Bool.false_ne_true), if_neg (cx_ne (by decide +kernel)), if_neg (cx_ne (by decide +kernel)), if_neg (cx_ne (by decide +kernel)), split_cx h]
  rfl
theorem followGo_app {tl : Read → Told} : ∀ (ns : List Str) (n u : Str), followGo tl (ns ++ [n]) u = (followGo tl ns u).bind fun v => followGo tl [n] v
  | [], n, u => rfl
  | m :: r, n, u => by
    simp only [List.cons_append, followGo]
    split
    · exact followGo_app r n _
    · rfl
/-- the path leads to u -/
def Leads (rq : Req) (tl : Read → Told) (p u : Str) : Prop := ∃ r ns, IsPath p r ns ∧ follow r ns rq tl = some u
theorem follow_ext {rq : Req} {tl : Read → Told} {r n u v : Str} {ns : List Str} (h : follow r ns rq tl = some u) (ht : tl (.attr u n) = .value (.sc (.en v))) : follow r (ns ++ [n]) rq tl = some v := by
  unfold follow at h ⊢
  cases q : rootUid r rq with
  | none => rw [q] at h; cases h
  | some u0 =>
    rw [q] at h
    show followGo tl (ns ++ [n]) u0 = some v
    have h' : followGo tl ns u0 = some u := h
    rw [followGo_app, h']
    simp [followGo, ht]
theorem Leads.ext {rq : Req} {tl : Read → Told} {p u v n : Str} (h : Leads rq tl p u) (hn : isName n = true) (ht : tl (.attr u n) = .value (.sc (.en v))) : Leads rq tl (p ++ "." ++ n) v := by
  obtain ⟨r, ns, hp, hf⟩ := h
  exact ⟨r, ns ++ [n], .ext hp hn, follow_ext hf ht⟩
theorem Leads.attr {rq : Req} {tl : Read → Told} {p u n : Str} (h : Leads rq tl p u) (hn : isName n = true) : endAttr rq tl (p ++ "." ++ n) = some (.attr u n) := by
  obtain ⟨r, ns, hp, hf⟩ := h
  unfold endAttr
  rw [path_sp (.ext hp hn)]
  simp [hf]
theorem Leads.anc {rq : Req} {tl : Read → Told} {p u : Str} (h : Leads rq tl p u) : endAnc rq tl p = some (.anc u) := by
  obtain ⟨r, ns, hp, hf⟩ := h
  unfold endAnc
  rw [path_sp hp]
  simp [hf]

/-! ### joined lists -/
theorem mem_fold {α : Type} [DecidableEq α] {x : α} : ∀ (b a : List α), x ∈ b.foldl (fun j r => if r ∈ j then j else j ++ [r]) a ↔ x ∈ a ∨ x ∈ b
  | [], a => by simp
  | y :: b, a => by
    rw [List.foldl_cons, mem_fold b]
    by_cases h : y ∈ a
    · rw [if_pos h]
      constructor
      · rintro (h1 | h1)
        · exact .inl h1
        · exact .inr (List.mem_cons_of_mem _ h1)
      · rintro (h1 | h1)
        · exact .inl h1
        · rcases List.mem_cons.mp h1 with e | h1
          · exact .inl (e ▸ h)
          · exact .inr h1
    · rw [if_neg h]
      simp only [List.mem_append, List.mem_cons, List.not_mem_nil, or_false]
      constructor
      · rintro ((h1 | h1) | h1)
        · exact .inl h1
        · exact .inr (.inl h1)
        · exact .inr (.inr h1)
      · rintro (h1 | h1 | h1)
        · exact .inl (.inl h1)
        · exact .inl (.inr h1)
        · exact .inr h1
theorem mem_joinL {α : Type} [DecidableEq α] {x : α} {a b : List α} : x ∈ joinL a b ↔ x ∈ a ∨ x ∈ b := mem_fold b a
theorem joinL_pre {α : Type} [DecidableEq α] : ∀ (b a : List α), a <+: joinL a b
  | [], a => List.prefix_refl a
  | y :: b, a => by
    show a <+: joinL (if y ∈ a then a else a ++ [y]) b
    refine List.IsPrefix.trans ?_ (joinL_pre b _)
    split
    · exact List.prefix_refl a
    · exact List.prefix_append a [y]
theorem joinL_nodup {α : Type} [DecidableEq α] : ∀ (b a : List α), a.Nodup → (joinL a b).Nodup
  | [], a, h => h
  | y :: b, a, h => by
    show (joinL (if y ∈ a then a else a ++ [y]) b).Nodup
    refine joinL_nodup b _ ?_
    split
    · exact h
    · rename_i hy
      exact List.nodup_append.mpr ⟨h, by simp, fun x hx z hz => by
        rw [List.mem_singleton.mp hz]
        exact fun e => hy (e ▸ hx)⟩
end FF
set_option Elab.async false
set_option linter.all false
set_option maxHeartbeats 1000000
/-! the mathematics: expressions as rows of nodes -/
namespace FF
open PySem

/-- the operands of the k-th node stand right before it, one behind another -/
def Tight (st : List Nat) (k : Nat) (nd : Node) : Prop := match ops nd with
  | [] => True
  | [i] => i + 1 = k
  | [i, j] => i + 1 = st.getD j 0 ∧ j + 1 = k
  | [i, j, l] => i + 1 = st.getD j 0 ∧ j + 1 = st.getD l 0 ∧ l + 1 = k
  | _ => False
def WF (e : List Node) : Prop := ∀ k nd, e[k]? = some nd → Tight (starts e) k nd

/-! ### starts -/
def stOf (nd : Node) (pl : List Nat) : Nat := match ops nd with
  | o :: _ => pl.getD o 0
  | [] => pl.length
theorem startsGo_cons (nd : Node) (r : List Node) (pl : List Nat) : startsGo (nd :: r) pl = startsGo r (pl ++ [stOf nd pl]) := rfl
theorem startsGo_spec : ∀ (l : List Node) (pl : List Nat), ∃ t, startsGo l pl = pl ++ t ∧ t.length = l.length ∧
    ∀ j nd, l[j]? = some nd → t[j]? = some (stOf nd (pl ++ t.take j))
  | [], pl => ⟨[], by simp [startsGo], rfl, fun j nd h => by simp at h⟩
  | nd :: r, pl => by
    obtain ⟨t, h1, h2, h3⟩ := startsGo_spec r (pl ++ [stOf nd pl])
    refine ⟨stOf nd pl :: t, by rw [startsGo_cons, h1]; simp, by simp [h2], fun j nd' h => ?_⟩
    cases j with
    | zero =>
      simp at h
      subst h
      simp
    | succ j =>
      simp at h
      have := h3 j nd' h
      simpa using this
theorem starts_len (e : List Node) : (starts e).length = e.length := by
  obtain ⟨t, h1, h2, _⟩ := startsGo_spec e []
  unfold starts
  rw [h1]
  simpa using h2
/-- the start of a node -/
def st (e : List Node) (k : Nat) : Nat := (starts e).getD k 0
theorem st_eq {e : List Node} {k : Nat} {nd : Node} (h : e[k]? = some nd) : st e k = stOf nd ((starts e).take k) := by
  obtain ⟨t, h1, h2, h3⟩ := startsGo_spec e []
  have e1 : starts e = t := by unfold starts; rw [h1]; simp
  unfold st
  rw [e1]
  have := h3 k nd h
  simp only [List.nil_append] at this
  simp [List.getD, this]
theorem getD_take {l : List Nat} {i k : Nat} (h : i < k) : (l.take k).getD i 0 = l.getD i 0 := by
  simp [List.getD, List.getElem?_take, h]
theorem lt_of_some {e : List Node} {k : Nat} {nd : Node} (h : e[k]? = some nd) : k < e.length := (List.getElem?_eq_some_iff.mp h).1
theorem st_leaf {e : List Node} {k : Nat} {nd : Node} (h : e[k]? = some nd) (ho : ops nd = []) : st e k = k := by
  rw [st_eq h]
  unfold stOf
  rw [ho]
  have := lt_of_some h
  simp [starts_len]
  omega
theorem st_op {e : List Node} {k o : Nat} {nd : Node} {r : List Nat} (h : e[k]? = some nd) (ho : ops nd = o :: r) (hk : o < k) : st e k = st e o := by
  rw [st_eq h]
  unfold stOf
  rw [ho]
  exact getD_take hk

/-- what Tight says, by the number of operands -/
inductive Shape (e : List Node) (k : Nat) (nd : Node) : Prop
  | zero : ops nd = [] → st e k = k → Shape e k nd
  | one (i : Nat) : ops nd = [i] → i + 1 = k → st e k = st e i → Shape e k nd
  | two (i j : Nat) : ops nd = [i, j] → i < j → i + 1 = st e j → j + 1 = k → st e k = st e i → Shape e k nd
  | three (i j l : Nat) : ops nd = [i, j, l] → i < j → j < l → i + 1 = st e j → j + 1 = st e l → l + 1 = k → st e k = st e i → Shape e k nd
theorem shape {e : List Node} (W : WF e) : ∀ k nd, e[k]? = some nd → st e k ≤ k ∧ Shape e k nd := by
  intro k
  induction k using Nat.strongRecOn with
  | _ k ih =>
    intro nd h
    have hk := lt_of_some h
    have ih' : ∀ j, j < k → st e j ≤ j := fun j hj => by
      have hj' : j < e.length := by omega
      exact (ih j hj (e[j]) (by simp [hj'])).1
    have w := W k nd h
    unfold Tight at w
    split at w
    · rename_i ho
      exact ⟨by rw [st_leaf h ho]; exact Nat.le_refl _, .zero ho (st_leaf h ho)⟩
    · rename_i i ho
      have e1 := st_op h ho (by omega)
      have := ih' i (by omega)
      exact ⟨by omega, .one i ho w e1⟩
    · rename_i i j ho
      obtain ⟨w1, w2⟩ := w
      have hj := ih' j (by omega)
      have w1' : i + 1 = st e j := w1
      have e1 := st_op h ho (by omega)
      have := ih' i (by omega)
      exact ⟨by omega, .two i j ho (by omega) w1' w2 e1⟩
    · rename_i i j l ho
      obtain ⟨w1, w2, w3⟩ := w
      have w1' : i + 1 = st e j := w1
      have w2' : j + 1 = st e l := w2
      have hl := ih' l (by omega)
      have hj := ih' j (by omega)
      have e1 := st_op h ho (by omega)
      have := ih' i (by omega)
      exact ⟨by omega, .three i j l ho (by omega) (by omega) w1' w2' w3 e1⟩
    · exact w.elim
theorem st_le {e : List Node} (W : WF e) {k : Nat} (hk : k < e.length) : st e k ≤ k := (shape W k (e[k]) (by simp [hk])).1
/-- an operand: before its node, its start not before the node's start -/
theorem op_lt {e : List Node} (W : WF e) {k o : Nat} {nd : Node} (h : e[k]? = some nd) (ho : o ∈ ops nd) : o < k ∧ st e k ≤ st e o := by
  obtain ⟨hle, s⟩ := shape W k nd h
  have hk := lt_of_some h
  cases s with
  | zero h0 _ => rw [h0] at ho; cases ho
  | one i h0 h1 h2 =>
    rw [h0] at ho
    simp at ho
    subst ho
    exact ⟨by omega, by omega⟩
  | two i j h0 h1 h2 h3 h4 =>
    rw [h0] at ho
    have hi := st_le W (k := i) (by omega)
    simp at ho
    rcases ho with rfl | rfl
    · exact ⟨by omega, by omega⟩
    · exact ⟨by omega, by omega⟩
  | three i j l h0 h1 h2 h3 h4 h5 h6 =>
    rw [h0] at ho
    have hi := st_le W (k := i) (by omega)
    have hj := st_le W (k := j) (by omega)
    simp at ho
    rcases ho with rfl | rfl | rfl
    · exact ⟨by omega, by omega⟩
    · exact ⟨by omega, by omega⟩
    · exact ⟨by omega, by omega⟩
/-- a place within a node's part, but the node itself, lies within an operand's part; the operands before lie before that one's start -/
theorem cover {e : List Node} (W : WF e) {k s : Nat} {nd : Node} (h : e[k]? = some nd) (h1 : st e k ≤ s) (h2 : s < k) :
    ∃ o ∈ ops nd, st e o ≤ s ∧ s ≤ o ∧ ∀ o' ∈ ops nd, o' < o → o' < st e o := by
  obtain ⟨hle, sh⟩ := shape W k nd h
  have hk := lt_of_some h
  cases sh with
  | zero h0 h3 => omega
  | one i h0 h3 h4 => exact ⟨i, by simp [h0], by omega, by omega, fun o' ho' hlt => by rw [h0] at ho'; simp at ho'; omega⟩
  | two i j h0 h3 h4 h5 h6 =>
    by_cases hs : s ≤ i
    · exact ⟨i, by simp [h0], by omega, hs, fun o' ho' hlt => by rw [h0] at ho'; simp at ho'; omega⟩
    · exact ⟨j, by simp [h0], by omega, by omega, fun o' ho' hlt => by rw [h0] at ho'; simp at ho'; omega⟩
  | three i j l h0 h3 h4 h5 h6 h7 h8 =>
    by_cases hs : s ≤ i
    · exact ⟨i, by simp [h0], by omega, hs, fun o' ho' hlt => by rw [h0] at ho'; simp at ho'; omega⟩
    · by_cases hs2 : s ≤ j
      · exact ⟨j, by simp [h0], by omega, hs2, fun o' ho' hlt => by rw [h0] at ho'; simp at ho'; omega⟩
      · exact ⟨l, by simp [h0], by omega, by omega, fun o' ho' hlt => by rw [h0] at ho'; simp at ho'; omega⟩
theorem nest {e : List Node} (W : WF e) : ∀ k s, k < e.length → st e k ≤ s → s ≤ k → st e k ≤ st e s := by
  intro k
  induction k using Nat.strongRecOn with
  | _ k ih =>
    intro s hk h1 h2
    by_cases hs : s = k
    · subst hs; exact Nat.le_refl _
    · obtain ⟨o, ho, a, b, _⟩ := cover W (k := k) (nd := e[k]) (by simp [hk]) h1 (by omega)
      obtain ⟨c, d⟩ := op_lt W (k := k) (nd := e[k]) (by simp [hk]) ho
      exact Nat.le_trans d (ih o c s (by omega) a b)
/-- an operand of q before s, s within q's part: it lies before the start of s -/
theorem before {e : List Node} (W : WF e) {q s o : Nat} {nd : Node} (h : e[q]? = some nd) (h1 : st e q ≤ s) (h2 : s < q) (ho : o ∈ ops nd) (h3 : o < s) : o < st e s := by
  obtain ⟨o1, m, a, b, c⟩ := cover W h h1 h2
  have hq := lt_of_some h
  have l := op_lt W h m
  have n := nest W o1 s (by omega) a b
  exact Nat.lt_of_lt_of_le (c o ho (by omega)) n

/-! ### roles -/
theorem setOps_len (place : Nat) : ∀ (os : List Nat) (n : Nat) (rs : List Role), (setOps place os n rs).length = rs.length
  | [], n, rs => rfl
  | o :: r, n, rs => by rw [setOps, setOps_len place r]; simp
theorem setOps_get (place : Nat) : ∀ (os : List Nat) (n : Nat) (rs : List Role) (k : Nat) (x : Nat × Nat), (setOps place os n rs)[k]? = some (some x) →
    (∃ m, os[m]? = some k ∧ x = (place, n + m)) ∨ rs[k]? = some (some x)
  | [], n, rs, k, x, h => .inr h
  | o :: r, n, rs, k, x, h => by
    rcases setOps_get place r (n + 1) _ k x h with ⟨m, h1, h2⟩ | h1
    · exact .inl ⟨m + 1, by simpa using h1, by rw [h2]; congr 1; omega⟩
    · rw [List.getElem?_set] at h1
      split at h1
      · rename_i e
        split at h1
        · cases h1
          exact .inl ⟨0, by simp [e], rfl⟩
        · cases h1
      · exact .inr h1
theorem rolesGo_len : ∀ (l : List Node) (place : Nat) (rs : List Role), (rolesGo l place rs).length = rs.length
  | [], _, _ => rfl
  | nd :: r, place, rs => by rw [rolesGo, rolesGo_len r, setOps_len]
theorem rolesGo_get : ∀ (l : List Node) (place : Nat) (rs : List Role) (k : Nat) (x : Nat × Nat), (rolesGo l place rs)[k]? = some (some x) →
    (∃ j nd, l[j]? = some nd ∧ x.1 = place + j ∧ (ops nd)[x.2]? = some k) ∨ rs[k]? = some (some x)
  | [], place, rs, k, x, h => .inr h
  | nd :: r, place, rs, k, x, h => by
    rcases rolesGo_get r (place + 1) _ k x h with ⟨j, nd', h1, h2, h3⟩ | h1
    · exact .inl ⟨j + 1, nd', by simpa using h1, by omega, h3⟩
    · rcases setOps_get place (ops nd) 0 rs k x h1 with ⟨m, h2, h3⟩ | h2
      · exact .inl ⟨0, nd, rfl, by rw [h3]; rfl, by rw [h3]; simpa using h2⟩
      · exact .inr h2
theorem roles_len (e : List Node) : (roles e).length = e.length := by
  unfold roles
  rw [rolesGo_len]
  simp
theorem roles_get {e : List Node} {k p n : Nat} (h : (roles e).getD k none = some (p, n)) : ∃ nd, e[p]? = some nd ∧ (ops nd)[n]? = some k := by
  have h' : (roles e)[k]? = some (some (p, n)) := by
    rw [List.getD_eq_getElem?_getD] at h
    cases q : (roles e)[k]? with
    | none => rw [q] at h; cases h
    | some x => rw [q] at h; exact congrArg some h
  unfold roles at h'
  rcases rolesGo_get e 0 _ k (p, n) h' with ⟨j, nd, h1, h2, h3⟩ | h1
  · have e1 : p = j := by have h2' : p = 0 + j := h2; omega
    exact ⟨nd, by rw [e1]; exact h1, h3⟩
  · rw [List.getElem?_replicate] at h1
    split at h1 <;> cases h1

/-! ### where a run may stand -/
def hasV (vals : Vals') (o : Nat) : Prop := ∃ v, vals.getD o none = some v
structure Inv (e : List Node) (at_ : Nat) (vals : Vals') : Prop where
  lt : at_ < e.length
  ne : ∀ nd, e[at_]? = some nd → isIte nd = false
  len : vals.length = e.length
  up : ∀ q nd, e[q]? = some nd → at_ ≤ q → st e q ≤ at_ → ∀ o ∈ ops nd, o < at_ → isIte nd = true ∨ hasV vals o
theorem Inv.ops {e : List Node} {at_ : Nat} {vals : Vals'} (W : WF e) (I : Inv e at_ vals) {nd : Node} (h : e[at_]? = some nd) : ∀ o ∈ ops nd, hasV vals o := fun o ho => by
  rcases I.up at_ nd h (Nat.le_refl _) (st_le W I.lt) o ho (op_lt W h ho).1 with q | q
  · rw [I.ne nd h] at q; cases q
  · exact q
theorem inv0 {e : List Node} (W : WF e) (h0 : 0 < e.length) : Inv e 0 (List.replicate e.length none) := by
  refine ⟨h0, fun nd h => ?_, by simp, fun q nd h _ _ o ho hlt => absurd hlt (Nat.not_lt_zero _)⟩
  obtain ⟨_, s⟩ := shape W 0 nd h
  cases s with
  | zero h1 _ => cases nd <;> first | rfl | (simp [ops] at h1)
  | one i _ h1 _ => omega
  | two i j _ _ _ h1 _ => omega
  | three i j l _ _ _ _ _ h1 _ => omega

theorem hasV_set {vals : Vals'} {p o : Nat} {v : Val} (h : hasV vals o) : hasV (vals.set p (some v)) o := by
  obtain ⟨x, hx⟩ := h
  unfold hasV
  rw [List.getD_eq_getElem?_getD] at hx ⊢
  rw [List.getElem?_set]
  by_cases e : p = o
  · subst e
    rw [if_pos rfl]
    by_cases hl : p < vals.length
    · rw [if_pos hl]; exact ⟨v, rfl⟩
    · rw [List.getElem?_eq_none (by omega)] at hx; cases hx
  · rw [if_neg e]; exact ⟨x, hx⟩
theorem hasV_here {vals : Vals'} {p : Nat} {v : Val} (h : p < vals.length) : (vals.set p (some v)).getD p none = some v := by
  rw [List.getD_eq_getElem?_getD, List.getElem?_set_self h]
  rfl
structure Settled (e : List Node) (at_ : Nat) (vals : Vals') (s : Nat) (vals2 : Vals') : Prop where
  lt : s < e.length
  ge : at_ ≤ s
  st : st e s ≤ st e at_
  len : vals2.length = e.length
  keep : ∀ o, hasV vals o → hasV vals2 o
  here : hasV vals2 s
  role : ∀ p n v, (roles e).getD s none = some (p, n) → vals2.getD s none = some v → (isLazy (e.getD p .prin) && (decide (n = 0) && !isTruth v)) = false ∧ passedOn (e.getD p .prin) n v = false
theorem settle_ok {e : List Node} (W : WF e) : ∀ (f at_ : Nat) (vals : Vals') (s : Nat) (vals2 : Vals'), at_ < e.length → e.length ≤ at_ + f → vals.length = e.length → hasV vals at_ →
    settle e (roles e) f at_ vals = (some s, vals2) → Settled e at_ vals s vals2 := by
  intro f
  induction f with
  | zero => intro at_ vals s vals2 h1 h2; omega
  | succ f ih =>
    intro at_ vals s vals2 h1 h2 hl hv h
    obtain ⟨v, hv'⟩ := hv
    unfold settle at h
    rw [hv'] at h
    cases q : (roles e).getD at_ none with
    | none =>
      rw [q] at h
      simp at h
      obtain ⟨rfl, rfl⟩ := h
      exact ⟨h1, Nat.le_refl _, Nat.le_refl _, hl, fun _ x => x, ⟨v, hv'⟩, fun p n w hr _ => by rw [q] at hr; cases hr⟩
    | some r =>
      obtain ⟨p, n⟩ := r
      rw [q] at h
      simp only at h
      split at h
      · cases h
      · rename_i c1
        obtain ⟨nd, hp, ho⟩ := roles_get q
        have hm : at_ ∈ ops nd := List.mem_of_getElem? ho
        obtain ⟨l1, l2⟩ := op_lt W hp hm
        have hp' := lt_of_some hp
        split at h
        · rename_i c2
          have S := ih p (vals.set p (some v)) s vals2 hp' (by omega) (by simp [hl]) ⟨v, hasV_here (by omega)⟩ h
          exact ⟨S.lt, by have := S.ge; omega, Nat.le_trans S.st l2, S.len, fun o x => S.keep o (hasV_set x), S.here, S.role⟩
        · rename_i c2
          simp at h
          obtain ⟨rfl, rfl⟩ := h
          refine ⟨h1, Nat.le_refl _, Nat.le_refl _, hl, fun _ x => x, ⟨v, hv'⟩, fun p' n' w hr hw => ?_⟩
          rw [q] at hr
          cases hr
          rw [hv'] at hw
          cases hw
          refine ⟨by revert c1; simp, by revert c2; simp⟩
theorem getD_node {e : List Node} {p : Nat} {nd : Node} (h : e[p]? = some nd) : e.getD p .prin = nd := by simp [List.getD, h]
/-- the next place: it lies behind, and a run may stand there -/
theorem next_ok {e : List Node} (W : WF e) {at_ s p n : Nat} {vals vals2 : Vals'} {v : Val} (I : Inv e at_ vals) (S : Settled e at_ (vals.set at_ (some v)) s vals2) (hr : (roles e).getD s none = some (p, n)) :
    at_ < behind e (roles e) (starts e) vals2 s ∧ Inv e (behind e (roles e) (starts e) vals2 s) vals2 := by
  obtain ⟨nd, hp, ho⟩ := roles_get hr
  have hm : s ∈ ops nd := List.mem_of_getElem? ho
  obtain ⟨l1, l2⟩ := op_lt W hp hm
  have hp' := lt_of_some hp
  obtain ⟨w, hw⟩ := S.here
  have hR := (S.role p n w hr hw).2
  have hL := (S.role p n w hr hw).1
  rw [getD_node hp] at hR hL
  have hge := S.ge
  have hst := S.st
  have hsa := st_le W I.lt
  -- what is known of the nodes above s
  have up : ∀ q nd', e[q]? = some nd' → s < q → st e q ≤ s → ∀ o ∈ ops nd', o ≤ s → isIte nd' = true ∨ hasV vals2 o := fun q nd' hq h1 h2 o hoq h3 => by
    by_cases e1 : o = s
    · subst e1; exact .inr S.here
    · have h4 := before W hq h2 h1 hoq (by omega)
      have h5 := nest W q s (lt_of_some hq) h2 (by omega)
      rcases I.up q nd' hq (by omega) (by omega) o hoq (by omega) with x | x
      · exact .inl x
      · exact .inr (S.keep o (hasV_set x))
  -- the step s + 1
  have stepOk : (∀ m, (ops nd)[n + 1]? = none → isIte nd = false) → s + 1 < e.length ∧ Inv e (s + 1) vals2 := fun hI => by
    refine ⟨by omega, by omega, fun nd' h => ?_, S.len, fun q nd' hq h1 h2 o hoq h3 => ?_⟩
    · -- the node at s + 1 is a leaf, or p itself
      obtain ⟨_, sh⟩ := shape W p nd hp
      have leafAt : ∀ m, (ops nd)[n + 1]? = some m → s + 1 = st e m → m < e.length → isIte nd' = false := fun m hm1 hm2 hm3 => by
        have hlm := st_le W hm3
        have h5 : st e (s + 1) = s + 1 := by
          have h6 := nest W m (s + 1) hm3 (by omega) (by omega)
          have h7 := st_le W (k := s + 1) (by omega)
          omega
        obtain ⟨_, sh'⟩ := shape W (s + 1) nd' h
        cases sh' with
        | zero h8 _ => cases nd' <;> first | rfl | (simp [ops] at h8)
        | one i h8 h9 h10 => have := st_le W (k := i) (by omega); omega
        | two i j h8 h9 h10 h11 h12 => have := st_le W (k := i) (by omega); omega
        | three i j l h8 h9 h10 h11 h12 h13 h14 => have := st_le W (k := i) (by omega); omega
      have isP : p = s + 1 → (ops nd)[n + 1]? = none → isIte nd' = false := fun e1 e2 => by
        rw [e1] at hp
        rw [hp] at h
        cases h
        exact hI 0 e2
      cases sh with
      | zero h0 _ => rw [h0] at ho; simp at ho
      | one i h0 h3 h4 =>
        rw [h0] at ho
        cases n with
        | zero => simp at ho; exact isP (by omega) (by rw [h0]; rfl)
        | succ n => simp at ho
      | two i j h0 h3 h4 h5 h6 =>
        rw [h0] at ho
        cases n with
        | zero => simp at ho; subst ho; exact leafAt j (by rw [h0]; rfl) h4 (by omega)
        | succ n =>
          cases n with
          | zero => simp at ho; exact isP (by omega) (by rw [h0]; rfl)
          | succ n => simp at ho
      | three i j l h0 h3 h4 h5 h6 h7 h8 =>
        rw [h0] at ho
        cases n with
        | zero => simp at ho; subst ho; exact leafAt j (by rw [h0]; rfl) h5 (by omega)
        | succ n =>
          cases n with
          | zero => simp at ho; subst ho; exact leafAt l (by rw [h0]; rfl) h6 (by omega)
          | succ n =>
            cases n with
            | zero => simp at ho; exact isP (by omega) (by rw [h0]; rfl)
            | succ n => simp at ho
    · have hsq : st e q ≤ s ∨ st e q = s + 1 := by omega
      rcases hsq with hsq | hsq
      · exact up q nd' hq (by omega) hsq o hoq (by omega)
      · have := (op_lt W hq hoq).2
        have h9 := (op_lt W hq hoq).1
        have := st_le W (k := o) (by have := lt_of_some hq; omega)
        omega
  unfold behind
  rw [hr]
  simp only [getD_node hp]
  have plain : isIte nd = false → at_ < s + 1 ∧ Inv e (s + 1) vals2 := fun hI => ⟨by omega, (stepOk fun _ _ => hI).2⟩
  cases nd with
  | ite i j k =>
    simp only
    -- n = 0, for else the value is passed on
    have hn : n = 0 := by
      simp [passedOn] at hR
      exact hR
    subst hn
    simp [ops] at ho
    subst ho
    obtain ⟨_, sh⟩ := shape W p _ hp
    cases sh with
    | three i' j' l' h0 h3 h4 h5 h6 h7 h8 =>
      simp [ops] at h0
      obtain ⟨rfl, rfl, rfl⟩ := h0
      split
      · rename_i hc
        show at_ < st e k ∧ Inv e (st e k) vals2
        have hlk := st_le W (k := k) (by omega)
        have hlj := st_le W (k := j) (by omega)
        refine ⟨by omega, by omega, fun nd' h => ?_, S.len, fun q nd' hq h1 h2 o hoq h9 => ?_⟩
        · have h5' : st e (st e k) = st e k := by
            have h6' := nest W k (st e k) (by omega) (Nat.le_refl _) hlk
            have h7' := st_le W (k := st e k) (by omega)
            omega
          obtain ⟨_, sh'⟩ := shape W _ nd' h
          cases sh' with
          | zero h8 _ => cases nd' <;> first | rfl | (simp [ops] at h8)
          | one i h8 h9 h10 => have := st_le W (k := i) (by omega); omega
          | two i j h8 h9 h10 h11 h12 => have := st_le W (k := i) (by omega); omega
          | three i j l h8 h9 h10 h11 h12 h13 h14 => have := st_le W (k := i) (by omega); omega
        · by_cases hqp : q = p
          · subst hqp
            rw [hp] at hq
            cases hq
            exact .inl rfl
          · by_cases hlt : q < p
            · -- within the third part: nothing lies before its start
              have hqk : q ≤ k := by omega
              have a1 := nest W k q (by omega) (by omega) hqk
              have a2 := (op_lt W hq hoq).2
              have a3 := (op_lt W hq hoq).1
              have a4 := st_le W (k := o) (by have := lt_of_some hq; omega)
              omega
            · -- above p
              have b1 : st e q ≤ p := by omega
              have b0 : o < st e p := by
                by_cases hop : o < p
                · exact before W hq b1 (by omega) hoq hop
                · omega
              have b2 := nest W q p (lt_of_some hq) b1 (by omega)
              have b3 := st_le W (k := i) (by omega)
              exact up q nd' hq (by omega) (by omega) o hoq (by omega)
      · rename_i hc
        refine ⟨by omega, (stepOk fun m hm => ?_).2⟩
        simp [ops] at hm
    | zero h0 _ => simp [ops] at h0
    | one i h0 _ _ => simp [ops] at h0
    | two i j h0 _ _ _ _ => simp [ops] at h0
  | _ => exact plain rfl
end FF
set_option Elab.async false
set_option linter.all false
set_option maxHeartbeats 1000000
/-! the mathematics: what is read lies on the manifest; a slice tells the same -/
namespace FF
open PySem

/-! ### the paths of the nodes -/
theorem nodePathsGo_spec : ∀ (l : List Node) (kn : List (List Str)), ∃ t, nodePathsGo l kn = kn ++ t ∧ t.length = l.length ∧
    ∀ j nd, l[j]? = some nd → t[j]? = some (pathsOf (kn ++ t.take j) nd)
  | [], kn => ⟨[], by simp [nodePathsGo], rfl, fun j nd h => by simp at h⟩
  | nd :: r, kn => by
    obtain ⟨t, h1, h2, h3⟩ := nodePathsGo_spec r (kn ++ [pathsOf kn nd])
    refine ⟨pathsOf kn nd :: t, by rw [nodePathsGo, h1]; simp, by simp [h2], fun j nd' h => ?_⟩
    cases j with
    | zero => simp at h; subst h; simp
    | succ j =>
      simp at h
      have := h3 j nd' h
      simpa using this
theorem nodePaths_len (e : List Node) : (nodePaths e).length = e.length := by
  obtain ⟨t, h1, h2, _⟩ := nodePathsGo_spec e []
  unfold nodePaths
  rw [h1]
  simpa using h2
/-- the paths of the k-th node -/
def pth (e : List Node) (k : Nat) : List Str := (nodePaths e).getD k []
theorem getD_takeL {α : Type} {l : List (List α)} {i k : Nat} (h : i < k) : (l.take k).getD i [] = l.getD i [] := by
  simp [List.getD, List.getElem?_take, h]
theorem pathsOf_take {kn : List (List Str)} {k : Nat} {nd : Node} (h : ∀ o ∈ ops nd, o < k) : pathsOf (kn.take k) nd = pathsOf kn nd := by
  cases nd with
  | value v => cases v with
    | sc s => cases s <;> rfl
    | st l => rfl
  | one w i n => cases w with
    | get => 
      show extd ((kn.take k).getD i []) n = extd (kn.getD i []) n
      rw [getD_takeL (h i (by simp [ops]))]
    | _ => rfl
  | ite i j l =>
    show joinL ((kn.take k).getD j []) ((kn.take k).getD l []) = joinL (kn.getD j []) (kn.getD l [])
    rw [getD_takeL (h j (by simp [ops])), getD_takeL (h l (by simp [ops]))]
  | _ => rfl
theorem pth_eq {e : List Node} (W : WF e) {k : Nat} {nd : Node} (h : e[k]? = some nd) : pth e k = pathsOf (nodePaths e) nd := by
  obtain ⟨t, h1, h2, h3⟩ := nodePathsGo_spec e []
  have e1 : nodePaths e = t := by unfold nodePaths; rw [h1]; simp
  unfold pth
  rw [e1]
  have := h3 k nd h
  simp only [List.nil_append] at this
  rw [pathsOf_take fun o ho => (op_lt W h ho).1] at this
  simp [List.getD, this]

/-! ### what a node must be -/
def ScalOk : Scal → Prop
  | .en u => isUid u = true
  | _ => True
def ValOk : Val → Prop
  | .sc s => ScalOk s
  | .st l => ∀ s ∈ l, ScalOk s
def NodeOk : Node → Prop
  | .value v => ValOk v
  | .ctx n => isName n = true
  | .given n => isName n = true
  | .one _ _ n => isName n = true
  | _ => True
structure ExprOk (e : List Node) : Prop where
  wf : WF e
  ne : e ≠ []
  nodes : ∀ nd ∈ e, NodeOk nd

/-! ### the manifest of an expression -/
theorem exprMan_mono (kn : List (List Str)) : ∀ (l : List Node) (m : Man), (∀ x ∈ m.1, x ∈ (l.foldl (exprManStep kn) m).1) ∧ (∀ x ∈ m.2, x ∈ (l.foldl (exprManStep kn) m).2)
  | [], m => ⟨fun _ h => h, fun _ h => h⟩
  | nd :: r, m => by
    have ih := exprMan_mono kn r (exprManStep kn m nd)
    have s1 : ∀ x ∈ m.1, x ∈ (exprManStep kn m nd).1 := fun x h => by
      unfold exprManStep
      split
      · exact mem_joinL.mpr (.inl h)
      · exact mem_joinL.mpr (.inl h)
      · exact h
      · exact h
    have s2 : ∀ x ∈ m.2, x ∈ (exprManStep kn m nd).2 := fun x h => by
      unfold exprManStep
      split
      · exact h
      · exact h
      · exact mem_joinL.mpr (.inl h)
      · exact h
    exact ⟨fun x h => ih.1 x (s1 x h), fun x h => ih.2 x (s2 x h)⟩
theorem exprMan_at (kn : List (List Str)) : ∀ (l : List Node) (m : Man) (nd : Node), nd ∈ l → ∃ m0, (∀ x ∈ (exprManStep kn m0 nd).1, x ∈ (l.foldl (exprManStep kn) m).1) ∧ (∀ x ∈ (exprManStep kn m0 nd).2, x ∈ (l.foldl (exprManStep kn) m).2)
  | x :: r, m, nd, h => by
    rcases List.mem_cons.mp h with e | h
    · subst e
      exact ⟨m, exprMan_mono kn r _⟩
    · exact exprMan_at kn r _ nd h
theorem man_attr {e : List Node} {w : One} {i : Nat} {n p : Str} (h : Node.one w i n ∈ e) (hw : w = .get ∨ w = .has) (hp : p ∈ pth e i) : p ++ "." ++ n ∈ (exprMan e).1 := by
  obtain ⟨m0, h1, _⟩ := exprMan_at (nodePaths e) e ([], []) _ h
  refine h1 _ ?_
  rcases hw with rfl | rfl
  · exact mem_joinL.mpr (.inr (List.mem_map.mpr ⟨p, hp, rfl⟩))
  · exact mem_joinL.mpr (.inr (List.mem_map.mpr ⟨p, hp, rfl⟩))
theorem man_anc {e : List Node} {i j : Nat} {p : Str} (h : Node.two .isin i j ∈ e) (hp : p ∈ pth e i) : p ∈ (exprMan e).2 := by
  obtain ⟨m0, _, h2⟩ := exprMan_at (nodePaths e) e ([], []) _ h
  exact h2 _ (mem_joinL.mpr (.inr hp))
theorem joinMan_mem : ∀ (l : List Man) (m : Man) (x : Str), (x ∈ (l.foldl (fun m t => (joinL m.1 t.1, joinL m.2 t.2)) m).1 ↔ x ∈ m.1 ∨ ∃ t ∈ l, x ∈ t.1) ∧ (x ∈ (l.foldl (fun m t => (joinL m.1 t.1, joinL m.2 t.2)) m).2 ↔ x ∈ m.2 ∨ ∃ t ∈ l, x ∈ t.2)
  | [], m, x => by simp
  | t :: r, m, x => by
    obtain ⟨h1, h2⟩ := joinMan_mem r (joinL m.1 t.1, joinL m.2 t.2) x
    rw [List.foldl_cons]
    refine ⟨h1.trans ?_, h2.trans ?_⟩
    · rw [mem_joinL]
      simp only [List.mem_cons, exists_eq_or_imp, or_assoc]
    · rw [mem_joinL]
      simp only [List.mem_cons, exists_eq_or_imp, or_assoc]
theorem polMan_1 {p : Pol} {x : Str} : x ∈ (polMan p).1 ↔ x ∈ (exprMan p.cond).1 := by
  unfold polMan joinMan
  rw [(joinMan_mem _ _ x).1]
  simp
theorem polMan_2 {p : Pol} {x : Str} : x ∈ (polMan p).2 ↔ x ∈ scopesOf p ∨ x ∈ (exprMan p.cond).2 := by
  unfold polMan joinMan
  rw [(joinMan_mem _ _ x).2]
  simp
theorem manM_1 {ps : List Pol} {k : Str × Str × Str} {x : Str} : x ∈ (manM ps k).1 ↔ ∃ p ∈ ps, canApply p k = true ∧ x ∈ (polMan p).1 := by
  unfold manM joinMan
  rw [(joinMan_mem _ _ x).1]
  simp only [List.not_mem_nil, false_or, List.mem_map, List.mem_filter]
  constructor
  · rintro ⟨t, ⟨p, ⟨h1, h2⟩, rfl⟩, h3⟩
    exact ⟨p, h1, h2, h3⟩
  · rintro ⟨p, h1, h2, h3⟩
    exact ⟨_, ⟨p, ⟨h1, h2⟩, rfl⟩, h3⟩
theorem manM_2 {ps : List Pol} {k : Str × Str × Str} {x : Str} : x ∈ (manM ps k).2 ↔ ∃ p ∈ ps, canApply p k = true ∧ x ∈ (polMan p).2 := by
  unfold manM joinMan
  rw [(joinMan_mem _ _ x).2]
  simp only [List.not_mem_nil, false_or, List.mem_map, List.mem_filter]
  constructor
  · rintro ⟨t, ⟨p, ⟨h1, h2⟩, rfl⟩, h3⟩
    exact ⟨p, h1, h2, h3⟩
  · rintro ⟨p, h1, h2, h3⟩
    exact ⟨_, ⟨p, ⟨h1, h2⟩, rfl⟩, h3⟩

/-! ### every listed path is one -/
theorem pth_ok {e : List Node} (E : ExprOk e) : ∀ k p, p ∈ pth e k → ∃ r ns, IsPath p r ns := by
  intro k
  induction k using Nat.strongRecOn with
  | _ k ih =>
    intro p hp
    cases q : e[k]? with
    | none =>
      unfold pth at hp
      have q' : (nodePaths e)[k]? = none := List.getElem?_eq_none_iff.mpr (by rw [nodePaths_len]; exact List.getElem?_eq_none_iff.mp q)
      simp [List.getD, q'] at hp
    | some nd =>
      rw [pth_eq E.wf q] at hp
      have hok := E.nodes nd (List.mem_of_getElem? q)
      cases nd with
      | value v => cases v with
        | sc s => cases s with
          | en u =>
            have : p = u := by simpa [pathsOf] using hp
            subst this
            exact ⟨p, [], .uid hok⟩
          | _ => simp [pathsOf] at hp
        | st l => simp [pathsOf] at hp
      | prin => 
        have : p = "principal" := by simpa [pathsOf] using hp
        subst this
        exact ⟨_, [], .prin⟩
      | act => 
        have : p = "action" := by simpa [pathsOf] using hp
        subst this
        exact ⟨_, [], .act⟩
      | res => 
        have : p = "resource" := by simpa [pathsOf] using hp
        subst this
        exact ⟨_, [], .res⟩
      | ctx n => 
        have : p = cx n := by simpa [pathsOf] using hp
        subst this
        exact ⟨_, [], .ctx hok⟩
      | one w i n => cases w with
        | get =>
          obtain ⟨p0, h0, rfl⟩ := List.mem_map.mp (show p ∈ (pth e i).map _ from hp)
          obtain ⟨r, ns, hr⟩ := ih i (op_lt E.wf q (by simp [ops])).1 p0 h0
          exact ⟨r, _, .ext hr hok⟩
        | _ => simp [pathsOf] at hp
      | ite i j l =>
        rcases mem_joinL.mp (show p ∈ joinL (pth e j) (pth e l) from hp) with h | h
        · exact ih j (op_lt E.wf q (by simp [ops])).1 p h
        · exact ih l (op_lt E.wf q (by simp [ops])).1 p h
      | _ => simp [pathsOf] at hp
theorem exprMan_ok1 {e : List Node} (E : ExprOk e) : ∀ p ∈ (exprMan e).1, ∃ r ns n, IsPath p r (ns ++ [n]) := by
  have key : ∀ (l : List Node) (m : Man), (∀ nd ∈ l, nd ∈ e) → (∀ p ∈ m.1, ∃ r ns n, IsPath p r (ns ++ [n])) → ∀ p ∈ (l.foldl (exprManStep (nodePaths e)) m).1, ∃ r ns n, IsPath p r (ns ++ [n]) := by
    intro l
    induction l with
    | nil => intro m _ h; exact h
    | cons nd l ih =>
      intro m hl h
      refine ih _ (fun x hx => hl x (List.mem_cons_of_mem _ hx)) ?_
      have hok := E.nodes nd (hl nd (List.mem_cons_self ..))
      intro p hp
      unfold exprManStep at hp
      split at hp
      · rcases mem_joinL.mp hp with h1 | h1
        · exact h p h1
        · obtain ⟨p0, h0, rfl⟩ := List.mem_map.mp h1
          obtain ⟨r, ns, hr⟩ := pth_ok E _ p0 h0
          exact ⟨r, ns, _, .ext hr hok⟩
      · rcases mem_joinL.mp hp with h1 | h1
        · exact h p h1
        · obtain ⟨p0, h0, rfl⟩ := List.mem_map.mp h1
          obtain ⟨r, ns, hr⟩ := pth_ok E _ p0 h0
          exact ⟨r, ns, _, .ext hr hok⟩
      · exact h p hp
      · exact h p hp
  exact key e ([], []) (fun _ h => h) (fun p h => by cases h)
theorem exprMan_ok2 {e : List Node} (E : ExprOk e) : ∀ p ∈ (exprMan e).2, ∃ r ns, IsPath p r ns := by
  have key : ∀ (l : List Node) (m : Man), (∀ p ∈ m.2, ∃ r ns, IsPath p r ns) → ∀ p ∈ (l.foldl (exprManStep (nodePaths e)) m).2, ∃ r ns, IsPath p r ns := by
    intro l
    induction l with
    | nil => intro m h; exact h
    | cons nd l ih =>
      intro m h
      refine ih _ ?_
      intro p hp
      unfold exprManStep at hp
      split at hp
      · exact h p hp
      · exact h p hp
      · rcases mem_joinL.mp hp with h1 | h1
        · exact h p h1
        · exact pth_ok E _ p h1
      · exact h p hp
  exact key e ([], []) (fun p h => by cases h)
structure ManOk (m : Man) : Prop where
  a : ∀ p ∈ m.1, ∃ r ns n, IsPath p r (ns ++ [n])
  b : ∀ p ∈ m.2, ∃ r ns, IsPath p r ns
theorem manM_ok {ps : List Pol} {k : Str × Str × Str} (h : ∀ p ∈ ps, ExprOk p.cond) : ManOk (manM ps k) := by
  refine ⟨fun x hx => ?_, fun x hx => ?_⟩
  · obtain ⟨p, h1, _, h3⟩ := manM_1.mp hx
    exact exprMan_ok1 (h p h1) x (polMan_1.mp h3)
  · obtain ⟨p, h1, _, h3⟩ := manM_2.mp hx
    rcases polMan_2.mp h3 with h4 | h4
    · unfold scopesOf at h4
      rcases List.mem_append.mp h4 with h5 | h5
      · split at h5
        · rw [List.mem_singleton.mp h5]; exact ⟨_, [], .prin⟩
        · cases h5
      · split at h5
        · rw [List.mem_singleton.mp h5]; exact ⟨_, [], .res⟩
        · cases h5
    · exact exprMan_ok2 (h p h1) x h4

/-! ### the run over two sources -/
/-- what is read of them is told alike where it is named -/
structure Alike (e : List Node) (rq : Req) (tD tS : Read → Told) : Prop where
  attr : ∀ (p u n : Str), p ++ "." ++ n ∈ (exprMan e).1 → isName n = true → Leads rq tD p u → tS (.attr u n) = tD (.attr u n)
  anc : ∀ (p u : Str), p ∈ (exprMan e).2 → Leads rq tD p u → tS (.anc u) = tD (.anc u)
/-- an entity among the values lies at a path of its node -/
def OnPath (e : List Node) (rq : Req) (tl : Read → Told) (vals : Vals') : Prop := ∀ k u, vals.getD k none = some (.sc (.en u)) → ∃ p ∈ pth e k, Leads rq tl p u
theorem onPath_set {e : List Node} {rq : Req} {tl : Read → Told} {vals : Vals'} {k : Nat} {v : Val} (h : OnPath e rq tl vals) (hv : ∀ u, v = .sc (.en u) → ∃ p ∈ pth e k, Leads rq tl p u) : OnPath e rq tl (vals.set k (some v)) := fun j u hj => by
  rw [List.getD_eq_getElem?_getD, List.getElem?_set] at hj
  by_cases q : k = j
  · subst q
    rw [if_pos rfl] at hj
    split at hj
    · simp at hj; exact hv u hj
    · cases hj
  · rw [if_neg q] at hj
    exact h j u (by rw [List.getD_eq_getElem?_getD]; exact hj)
theorem onPath0 {e : List Node} {rq : Req} {tl : Read → Told} {n : Nat} : OnPath e rq tl (List.replicate n none) := fun k u h => by
  rw [List.getD_eq_getElem?_getD, List.getElem?_replicate] at h
  split at h <;> cases h
theorem truth_no {b : Bool} {v : Val} (h : truth b = .value v) (u : Str) : v ≠ .sc (.en u) := by
  unfold truth at h
  injection h with h
  subst h
  intro q
  cases q
/-- the value that a node's outcome is lies at a path of the node -/
theorem nodeOut_path {e : List Node} (E : ExprOk e) {rq : Req} {tl : Read → Told} {vals : Vals'} {k : Nat} {nd : Node} {v : Val} {q : Option Read} (hO : OnPath e rq tl vals) (hk : e[k]? = some nd) (h : nodeOut tl rq vals nd = (.value v, q)) :
    ∀ u, v = .sc (.en u) → ∃ p ∈ pth e k, Leads rq tl p u := by
  intro u hv
  subst hv
  have hok := E.nodes nd (List.mem_of_getElem? hk)
  rw [pth_eq E.wf hk]
  cases nd with
  | value w =>
    simp [nodeOut, leafOut] at h
    obtain ⟨rfl, _⟩ := h
    exact ⟨u, by simp [pathsOf], u, [], .uid hok, by unfold follow; rw [root_uid hok]; rfl⟩
  | prin =>
    simp [nodeOut, leafOut] at h
    obtain ⟨rfl, _⟩ := h
    exact ⟨"principal", by simp [pathsOf], _, [], .prin, by unfold follow; rw [root_prin]; rfl⟩
  | act =>
    simp [nodeOut, leafOut] at h
    obtain ⟨rfl, _⟩ := h
    exact ⟨"action", by simp [pathsOf], _, [], .act, by unfold follow; rw [root_act]; rfl⟩
  | res =>
    simp [nodeOut, leafOut] at h
    obtain ⟨rfl, _⟩ := h
    exact ⟨"resource", by simp [pathsOf], _, [], .res, by unfold follow; rw [root_res]; rfl⟩
  | ctx n =>
    simp only [nodeOut, leafOut] at h
    cases z : valNamed rq.ctx n with
    | none => rw [z] at h; simp at h
    | some w =>
      rw [z] at h
      simp at h
      obtain ⟨rfl, _⟩ := h
      exact ⟨cx n, by simp [pathsOf], _, [], .ctx hok, by unfold follow; rw [root_ctx hok, z]; rfl⟩
  | given n =>
    simp [nodeOut, leafOut, truth] at h
  | one w i n =>
    simp only [nodeOut] at h
    cases z : vals.getD i none with
    | none => rw [z] at h; simp [wrongKind] at h
    | some x =>
      rw [z] at h
      simp only at h
      cases x with
      | st l => simp [oneOut, wrongKind] at h
      | sc s => cases s with
        | en x =>
          cases w with
          | is_ => simp [oneOut, truth] at h
          | has => simp [oneOut, truth] at h
          | get =>
            simp only [oneOut] at h
            cases t : tl (.attr x n) with
            | value y =>
              rw [t] at h
              simp at h
              obtain ⟨rfl, _⟩ := h
              obtain ⟨p, hp, hl⟩ := hO i x z
              exact ⟨p ++ "." ++ n, List.mem_map.mpr ⟨p, hp, rfl⟩, hl.ext hok t⟩
            | _ => rw [t] at h; simp at h
        | _ => simp [oneOut, wrongKind] at h
  | not_ i =>
    simp only [nodeOut] at h
    cases z : vals.getD i none with
    | none => rw [z] at h; simp [wrongKind] at h
    | some x =>
      rw [z] at h
      simp only [Prod.mk.injEq] at h
      obtain ⟨h, _⟩ := h
      cases x with
      | st l => simp [notOut, wrongKind] at h
      | sc s => cases s <;> simp [notOut, wrongKind, truth] at h
  | two w i j =>
    simp only [nodeOut] at h
    cases z1 : vals.getD i none with
    | none => rw [z1] at h; simp [wrongKind] at h
    | some a =>
      cases z2 : vals.getD j none with
      | none => rw [z1, z2] at h; simp [wrongKind] at h
      | some b =>
        rw [z1, z2] at h
        simp only at h
        have noT : ∀ o : Out, (o = wrongKind ∨ ∃ c, o = truth c) → o ≠ .value (.sc (.en u)) := by
          rintro o (rfl | ⟨c, rfl⟩) q
          · simp [wrongKind] at q
          · simp [truth] at q
        refine absurd (congrArg Prod.fst h) (noT _ ?_)
        cases w with
        | same => exact .inr ⟨_, rfl⟩
        | less =>
          simp only [twoOut]
          split
          · exact .inr ⟨_, rfl⟩
          · exact .inl rfl
        | contains =>
          simp only [twoOut]
          split
          · exact .inr ⟨_, rfl⟩
          · exact .inl rfl
        | isin =>
          simp only [twoOut, inOut]
          split
          · split
            · exact .inr ⟨_, rfl⟩
            · split
              · exact .inr ⟨_, rfl⟩
              · exact .inr ⟨_, rfl⟩
          · exact .inl rfl
        | and =>
          simp only [twoOut]
          split
          · exact .inr ⟨_, rfl⟩
          · exact .inl rfl
        | or =>
          simp only [twoOut]
          split
          · exact .inr ⟨_, rfl⟩
          · exact .inl rfl
  | ite i j l => simp [nodeOut, leafOut, wrongKind] at h
theorem nodeOut_alike {e : List Node} (E : ExprOk e) {rq : Req} {tD tS : Read → Told} {vals : Vals'} {k : Nat} {nd : Node} (A : Alike e rq tD tS) (hO : OnPath e rq tD vals) (hk : e[k]? = some nd) : nodeOut tS rq vals nd = nodeOut tD rq vals nd := by
  have hok := E.nodes nd (List.mem_of_getElem? hk)
  have hm := List.mem_of_getElem? hk
  cases nd with
  | one w i n =>
    simp only [nodeOut]
    cases z : vals.getD i none with
    | none => rfl
    | some x =>
      simp only
      cases x with
      | st l => rfl
      | sc s => cases s with
        | en x =>
          obtain ⟨p, hp, hl⟩ := hO i x z
          cases w with
          | is_ => rfl
          | has =>
            have := A.attr p x n (man_attr hm (.inr rfl) hp) hok hl
            simp only [oneOut, this]
          | get =>
            have := A.attr p x n (man_attr hm (.inl rfl) hp) hok hl
            simp only [oneOut, this]
        | _ => rfl
  | two w i j =>
    simp only [nodeOut]
    cases z1 : vals.getD i none with
    | none => rfl
    | some a =>
      cases z2 : vals.getD j none with
      | none => rfl
      | some b =>
        simp only
        cases w with
        | isin =>
          cases a with
          | st l => rfl
          | sc s => cases s with
            | en x =>
              obtain ⟨p, hp, hl⟩ := hO i x z1
              have := A.anc p x (man_anc hm hp) hl
              show inOut tS (.sc (.en x)) b = inOut tD (.sc (.en x)) b
              unfold inOut
              cases uidsOf b with
              | none => rfl
              | some us => simp only [this]
            | _ => rfl
        | _ => rfl
  | _ => rfl
theorem settle_path {e : List Node} (E : ExprOk e) {rq : Req} {tl : Read → Told} : ∀ (f at_ : Nat) (vals : Vals') (s : Option Nat) (vals2 : Vals'), OnPath e rq tl vals → settle e (roles e) f at_ vals = (s, vals2) → OnPath e rq tl vals2
  | 0, at_, vals, s, vals2, hO, h => by
    simp [settle] at h
    rw [← h.2]; exact hO
  | f + 1, at_, vals, s, vals2, hO, h => by
    unfold settle at h
    split at h
    · rename_i p n v h1 h2
      split at h
      · simp at h; rw [← h.2]; exact hO
      · split at h
        · rename_i c1 c2
          refine settle_path E f p _ s vals2 (onPath_set hO fun u hu => ?_) h
          subst hu
          obtain ⟨nd, hp, ho⟩ := roles_get h1
          rw [getD_node hp] at c2
          obtain ⟨q, hq, hl⟩ := hO at_ u h2
          cases nd with
          | ite i j l =>
            simp [passedOn] at c2
            rw [pth_eq E.wf hp]
            refine ⟨q, ?_, hl⟩
            show q ∈ joinL (pth e j) (pth e l)
            cases n with
            | zero => exact absurd c2 (Nat.lt_irrefl 0)
            | succ n =>
              cases n with
              | zero => simp [ops] at ho; subst ho; exact mem_joinL.mpr (.inl hq)
              | succ n =>
                cases n with
                | zero => simp [ops] at ho; subst ho; exact mem_joinL.mpr (.inr hq)
                | succ n => simp [ops] at ho
          | two w i j => cases w <;> simp [passedOn] at c2
          | _ => simp [passedOn] at c2
        · simp at h; rw [← h.2]; exact hO
    · simp at h; rw [← h.2]; exact hO
theorem run_alike {e : List Node} (E : ExprOk e) {rq : Req} {tD tS : Read → Told} (A : Alike e rq tD tS) : ∀ (f at_ : Nat) (vals : Vals') (rs : List Read), Inv e at_ vals → OnPath e rq tD vals → run e rq tS f at_ vals rs = run e rq tD f at_ vals rs
  | 0, _, _, _, _, _ => rfl
  | f + 1, at_, vals, rs, I, hO => by
    obtain ⟨nd, hk⟩ : ∃ nd, e[at_]? = some nd := ⟨e[at_]'I.lt, by simp [I.lt]⟩
    unfold run
    rw [getD_node hk, nodeOut_alike E A hO hk]
    cases z : nodeOut tD rq vals nd with
    | mk o q =>
      cases o with
      | fails w => rfl
      | value v =>
        simp only
        have hO1 := onPath_set (k := at_) (v := v) hO (nodeOut_path E hO hk z)
        cases y : settle e (roles e) e.length at_ (vals.set at_ (some v)) with
        | mk s vals2 =>
          cases s with
          | none => rfl
          | some s =>
            simp only
            have S := settle_ok E.wf e.length at_ _ s vals2 I.lt (by omega) (by simp [I.len]) ⟨v, hasV_here (by rw [I.len]; exact I.lt)⟩ y
            have hO2 := settle_path E _ _ _ _ _ hO1 y
            cases x : (roles e).getD s none with
            | none => rfl
            | some r =>
              obtain ⟨p, n⟩ := r
              simp only
              exact run_alike E A f _ vals2 _ (next_ok E.wf I S x).2 hO2
theorem evalM_alike {e : List Node} (E : ExprOk e) {rq : Req} {tD tS : Read → Told} (A : Alike e rq tD tS) : evalM e rq tS = evalM e rq tD :=
  run_alike E A _ 0 _ [] (inv0 E.wf (List.length_pos_iff.mpr E.ne)) onPath0
end FF
set_option Elab.async false
set_option linter.all false
set_option maxHeartbeats 1000000
/-! the mathematics: slices, decisions -/
namespace FF
open PySem

theorem mem_ins {x a : Str} : ∀ {l : List Str}, x ∈ ins a l ↔ x = a ∨ x ∈ l
  | [] => by simp [ins]
  | b :: l => by
    unfold ins
    split
    · simp only [List.mem_cons, mem_ins (l := l)]
      constructor
      · rintro (h | h | h)
        · exact .inr (.inl h)
        · exact .inl h
        · exact .inr (.inr h)
      · rintro (h | h | h)
        · exact .inr (.inl h)
        · exact .inl h
        · exact .inr (.inr h)
    · simp only [List.mem_cons]
theorem mem_isort {x : Str} : ∀ {l : List Str}, x ∈ isort l ↔ x ∈ l
  | [] => by simp [isort]
  | a :: l => by rw [isort, mem_ins, mem_isort (l := l), List.mem_cons]

theorem bfs_pre (par : Str → List Str) : ∀ (n : Nat) (f : List Str) (k : Nat), f <+: bfs par n f k
  | 0, f, k => List.prefix_refl f
  | n + 1, f, k => by
    unfold bfs
    split
    · exact List.prefix_refl f
    · exact (joinL_pre _ f).trans (bfs_pre par n _ _)
theorem bfs_congr {par par' : Str → List Str} : ∀ (n : Nat) (f : List Str) (k : Nat), (∀ x ∈ bfs par n f k, par' x = par x) → bfs par' n f k = bfs par n f k
  | 0, f, k, _ => rfl
  | n + 1, f, k, h => by
    unfold bfs at h ⊢
    cases q : f[k]? with
    | none => rfl
    | some x =>
      rw [q] at h
      simp only at h ⊢
      have hx : par' x = par x := h x (((joinL_pre _ f).trans (bfs_pre par n _ _)).subset (List.mem_of_getElem? q))
      rw [hx]
      exact bfs_congr n _ _ h
theorem mem_bfs {es : List Ent} {u x : Str} (h : x ∈ bfs (parOf es) 60 [u] 0) : x = u ∨ x ∈ anc es u := by
  have p := bfs_pre (parOf es) 60 [u] 0
  obtain ⟨t, ht⟩ := p
  unfold anc
  rw [← ht] at h ⊢
  simp only [List.cons_append, List.nil_append, List.mem_cons] at h
  rcases h with h | h
  · exact .inl h
  · exact .inr (mem_isort.mpr (by simpa using h))

/-! ### the slice -/
theorem keepEnt_uid {rs : List Read} {hi : List Str} {e e' : Ent} (h : keepEnt rs hi e = some e') : e'.uid = e.uid := by
  unfold keepEnt at h
  split at h
  · cases h
  · cases h; rfl
theorem find_cons {e : Ent} {es : List Ent} {u : Str} : find (e :: es) u = if e.uid = u then some e else find es u := by
  unfold find
  rw [List.find?_cons]
  by_cases h : e.uid = u
  · simp [h]
  · simp [h]
theorem find_keep {rs : List Read} {hi : List Str} {u : Str} : ∀ {es : List Ent}, (es.map (·.uid)).Nodup → find (es.filterMap (keepEnt rs hi)) u = (find es u).bind (keepEnt rs hi)
  | [], _ => rfl
  | e :: es, h => by
    simp only [List.map_cons, List.nodup_cons] at h
    have ih := find_keep (rs := rs) (hi := hi) (u := u) h.2
    rw [find_cons, List.filterMap_cons]
    by_cases hu : e.uid = u
    · rw [if_pos hu]
      cases q : keepEnt rs hi e with
      | none =>
        simp only [Option.bind_some, q]
        rw [ih]
        cases z : find es u with
        | none => rfl
        | some e2 =>
          exfalso
          unfold find at z
          have z1 := List.mem_of_find?_eq_some z
          have z2 := List.find?_some z
          simp at z2
          exact h.1 (by rw [hu, ← z2]; exact List.mem_map.mpr ⟨e2, z1, rfl⟩)
      | some e' =>
        simp only [Option.bind_some, q]
        rw [find_cons, if_pos ((keepEnt_uid q).trans hu)]
    · rw [if_neg hu]
      cases q : keepEnt rs hi e with
      | none => exact ih
      | some e' =>
        simp only
        rw [find_cons, if_neg (by rw [keepEnt_uid q]; exact hu)]
        exact ih
theorem find_uid {es : List Ent} {u : Str} {e : Ent} (h : find es u = some e) : e.uid = u ∧ e ∈ es := by
  unfold find at h
  have := List.find?_some h
  simp at this
  exact ⟨this, List.mem_of_find?_eq_some h⟩
theorem mem_names {rs : List Read} {u n : Str} : n ∈ namesFor rs u ↔ Read.attr u n ∈ rs := by
  unfold namesFor
  rw [List.mem_filterMap]
  constructor
  · rintro ⟨r, h1, h2⟩
    cases r with
    | anc v => cases h2
    | attr v m =>
      simp only at h2
      split at h2
      · rename_i e
        cases h2
        rw [← e]; exact h1
      · cases h2
  · intro h
    exact ⟨_, h, by simp⟩
theorem valNamed_filter {P : Str × Val → Bool} {n : Str} : ∀ {l : List (Str × Val)}, (∀ q ∈ l, q.1 = n → P q = true) → valNamed (l.filter P) n = valNamed l n
  | [], _ => rfl
  | q :: l, h => by
    have ih := valNamed_filter (P := P) (n := n) (l := l) fun x hx => h x (List.mem_cons_of_mem _ hx)
    unfold valNamed at ih ⊢
    by_cases e : q.1 = n
    · have := h q (List.mem_cons_self ..) e
      rw [List.filter_cons_of_pos this]
      simp [List.find?_cons, e]
    · rw [List.find?_cons]
      simp only [e, decide_false]
      by_cases c : P q = true
      · rw [List.filter_cons_of_pos c, List.find?_cons]
        simp only [e, decide_false]
        exact ih
      · rw [List.filter_cons_of_neg c]
        exact ih
theorem mem_hier {es : List Ent} {rs : List Read} {x : Str} : x ∈ hierM es rs ↔ ∃ u, Read.anc u ∈ rs ∧ (x = u ∨ x ∈ anc es u) := by
  unfold hierM
  rw [List.mem_flatMap]
  constructor
  · rintro ⟨r, h1, h2⟩
    cases r with
    | attr v n => cases h2
    | anc u => exact ⟨u, h1, List.mem_cons.mp h2⟩
  · rintro ⟨u, h1, h2⟩
    exact ⟨_, h1, List.mem_cons.mpr h2⟩
/-- what is named is told alike -/
theorem slice_tells {es : List Ent} {rq : Req} {m : Man} (hn : (es.map (·.uid)).Nodup) {r : Read} (h : r ∈ namedM m rq (tell es)) : tell (sliceM es rq m) r = tell es r := by
  have hf : ∀ u, find (sliceM es rq m) u = (find es u).bind (keepEnt (namedM m rq (tell es)) (hierM es (namedM m rq (tell es)))) := fun u => find_keep hn
  generalize hrs : namedM m rq (tell es) = rs at h hf
  cases r with
  | attr u n =>
    simp only [tell, hf]
    cases q : find es u with
    | none => rfl
    | some e =>
      obtain ⟨e1, e2⟩ := find_uid q
      have hnm : n ∈ namesFor rs e.uid := by rw [e1]; exact mem_names.mpr h
      have hk : keepEnt rs (hierM es rs) e = some ⟨e.uid, e.attrs.filter fun q => decide (q.1 ∈ namesFor rs e.uid), if e.uid ∈ hierM es rs then e.par else []⟩ := by
        unfold keepEnt
        rw [if_neg]
        rintro ⟨h1, _⟩
        rw [h1] at hnm
        cases hnm
      simp only [Option.bind_some, hk]
      rw [valNamed_filter fun q _ hq => by rw [hq]; exact decide_eq_true hnm]
  | anc u =>
    have hp : ∀ x ∈ bfs (parOf es) 60 [u] 0, parOf (sliceM es rq m) x = parOf es x := fun x hx => by
      have hm : x ∈ hierM es rs := mem_hier.mpr ⟨u, h, mem_bfs hx⟩
      unfold parOf
      rw [hf]
      cases q : find es x with
      | none => rfl
      | some e =>
        obtain ⟨e1, e2⟩ := find_uid q
        have hk : keepEnt rs (hierM es rs) e = some ⟨e.uid, e.attrs.filter fun q => decide (q.1 ∈ namesFor rs e.uid), if e.uid ∈ hierM es rs then e.par else []⟩ := by
          unfold keepEnt
          rw [if_neg]
          rintro ⟨_, h1⟩
          exact h1 (by rw [e1]; exact hm)
        simp only [Option.bind_some, hk]
        rw [if_pos (by rw [e1]; exact hm)]
    show Told.above (anc (sliceM es rq m) u) = Told.above (anc es u)
    unfold anc
    rw [bfs_congr 60 [u] 0 hp]
theorem find_perm {es es' : List Ent} (hp : es'.Perm es) (hn : (es.map (·.uid)).Nodup) (u : Str) : find es' u = find es u := by
  have hn' : (es'.map (·.uid)).Nodup := (hp.map _).nodup_iff.mpr hn
  cases q : find es' u with
  | none =>
    cases z : find es u with
    | none => rfl
    | some e =>
      obtain ⟨e1, e2⟩ := find_uid z
      unfold find at q
      rw [List.find?_eq_none] at q
      exact absurd (by simpa using e1) (q e (hp.mem_iff.mpr e2))
  | some e =>
    obtain ⟨e1, e2⟩ := find_uid q
    have key : ∀ (l : List Ent), (l.map (·.uid)).Nodup → e ∈ l → find l u = some e := by
      intro l
      induction l with
      | nil => intro _ h; cases h
      | cons a l ih =>
        intro hl hm
        simp only [List.map_cons, List.nodup_cons] at hl
        rw [find_cons]
        rcases List.mem_cons.mp hm with h | h
        · subst h; rw [if_pos e1]
        · have : ¬ a.uid = u := fun hh => hl.1 (by rw [hh, ← e1]; exact List.mem_map.mpr ⟨e, h, rfl⟩)
          rw [if_neg this]
          exact ih hl.2 h
    exact (key es hn (hp.mem_iff.mp e2)).symm
theorem tell_perm {es es' : List Ent} (hp : es'.Perm es) (hn : (es.map (·.uid)).Nodup) (r : Read) : tell es' r = tell es r := by
  have hf := find_perm hp hn
  cases r with
  | attr u n => simp only [tell, hf]
  | anc u =>
    show Told.above (anc es' u) = Told.above (anc es u)
    have : parOf es' = parOf es := by funext x; unfold parOf; rw [hf]
    unfold anc
    rw [this]
theorem slice_uids (es : List Ent) (rq : Req) (m : Man) : List.Sublist ((sliceM es rq m).map (·.uid)) (es.map (·.uid)) := by
  unfold sliceM
  simp only
  generalize namedM m rq (tell es) = rs
  generalize hierM es rs = hi
  induction es with
  | nil => exact List.Sublist.slnil
  | cons e l ih =>
    rw [List.filterMap_cons]
    cases q : keepEnt rs hi e with
    | none => exact (ih).cons _
    | some e' =>
      simp only [List.map_cons, keepEnt_uid q]
      exact (ih).cons₂ _

/-! ### decisions -/
structure PolOk (p : Pol) : Prop where
  cond : ExprOk p.cond
theorem inScope_alike {sc : Scope} {u : Str} {tD tS : Read → Told} (h : isIn sc = true → tS (.anc u) = tD (.anc u)) : inScope sc u tS = inScope sc u tD := by
  cases sc with
  | in_ v =>
    unfold inScope
    simp only
    rw [h rfl]
  | _ => rfl
theorem polSt_alike {ps : List Pol} {rq : Req} {es es' : List Ent} {k : Str × Str × Str} (hn : (es.map (·.uid)).Nodup) (hp : es'.Perm (sliceM es rq (manM ps k))) {p : Pol} (hm : p ∈ ps) (hc : canApply p k = true) (E : ExprOk p.cond) :
    polSt p rq (tell es') = polSt p rq (tell es) := by
  have hns := (slice_uids es rq (manM ps k)).nodup hn
  have named : ∀ r, r ∈ namedM (manM ps k) rq (tell es) → tell es' r = tell es r := fun r hr => by
    rw [tell_perm hp hns, slice_tells hn hr]
  have nA : ∀ q u, q ∈ (polMan p).2 → Leads rq (tell es) q u → tell es' (.anc u) = tell es (.anc u) := fun q u hq hl => by
    refine named _ (mem_joinL.mpr (.inr ?_))
    unfold endsM
    exact List.mem_append.mpr (.inr (List.mem_filterMap.mpr ⟨q, manM_2.mpr ⟨p, hm, hc, hq⟩, hl.anc⟩))
  have nT : ∀ (q u n : Str), q ++ "." ++ n ∈ (polMan p).1 → isName n = true → Leads rq (tell es) q u → tell es' (.attr u n) = tell es (.attr u n) := fun q u n hq hN hl => by
    refine named _ (mem_joinL.mpr (.inr ?_))
    unfold endsM
    exact List.mem_append.mpr (.inl (List.mem_filterMap.mpr ⟨_, manM_1.mpr ⟨p, hm, hc, hq⟩, hl.attr hN⟩))
  have A : Alike p.cond rq (tell es) (tell es') := ⟨fun q u n h1 h2 h3 => nT q u n (polMan_1.mpr h1) h2 h3, fun q u h1 h2 => nA q u (polMan_2.mpr (.inr h1)) h2⟩
  have a1 : inScope p.pr rq.p (tell es') = inScope p.pr rq.p (tell es) := inScope_alike fun hI => nA "principal" rq.p (polMan_2.mpr (.inl (by unfold scopesOf; rw [hI]; simp))) ⟨_, [], .prin, by unfold follow; rw [root_prin]; rfl⟩
  have a2 : inScope p.rs rq.r (tell es') = inScope p.rs rq.r (tell es) := inScope_alike fun hI => nA "resource" rq.r (polMan_2.mpr (.inl (by unfold scopesOf; rw [hI]; simp))) ⟨_, [], .res, by unfold follow; rw [root_res]; rfl⟩
  unfold polSt
  rw [a1, a2, evalM_alike E A]
theorem polSt_off {p : Pol} {rq : Req} {tl : Read → Told} (h : canApply p (kindOf rq.p, rq.a, kindOf rq.r) = false) : (polSt p rq tl).1 = .off := by
  have fit : ∀ sc u, fits sc (kindOf u) = false → (inScope sc u tl).1 = false := fun sc u hf => by
    cases sc with
    | any => cases hf
    | in_ v => cases hf
    | is_ v =>
      simp only [fits, decide_eq_false_iff_not] at hf
      simp only [inScope, decide_eq_false_iff_not]
      exact fun e => hf (by rw [e])
    | kind q =>
      simp only [fits, decide_eq_false_iff_not] at hf
      simp only [inScope, decide_eq_false_iff_not]
      exact fun e => hf e.symm
  unfold polSt
  by_cases h1 : actOk p rq.a = false
  · rw [if_pos h1]
  · rw [if_neg h1]
    simp only
    by_cases h2 : (inScope p.pr rq.p tl).1 = false
    · rw [if_pos h2]
    · rw [if_neg h2]
      by_cases h3 : (inScope p.rs rq.r tl).1 = false
      · rw [if_pos h3]
      · exfalso
        unfold canApply at h
        simp only [Bool.and_eq_false_iff] at h
        rcases h with h | h | h
        · exact h1 h
        · exact h2 (fit _ _ h)
        · exact h3 (fit _ _ h)
theorem decide_kept {ps : List Pol} {rq : Req} {es es' : List Ent} (hn : (es.map (·.uid)).Nodup) (hp : es'.Perm (sliceM es rq (manM ps (kindOf rq.p, rq.a, kindOf rq.r)))) (hE : ∀ p ∈ ps, ExprOk p.cond) :
    decideM (ps.filter fun p => canApply p (kindOf rq.p, rq.a, kindOf rq.r)) rq (tell es') = decideM (ps.filter fun p => canApply p (kindOf rq.p, rq.a, kindOf rq.r)) rq (tell es) := by
  have key : ∀ p ∈ ps.filter (fun p => canApply p (kindOf rq.p, rq.a, kindOf rq.r)), polSt p rq (tell es') = polSt p rq (tell es) := fun p h => by
    obtain ⟨h1, h2⟩ := List.mem_filter.mp h
    exact polSt_alike hn hp h1 h2 (hE p h1)
  unfold decideM
  generalize ps.filter (fun p => canApply p (kindOf rq.p, rq.a, kindOf rq.r)) = qs at key
  have e1 : (qs.map fun p => (p, (polSt p rq (tell es')).1)) = qs.map fun p => (p, (polSt p rq (tell es)).1) := List.map_congr_left fun p h => by rw [key p h]
  have e2 : ∀ (l : List Pol) (r : List Read), (∀ p ∈ l, p ∈ qs) → l.foldl (fun r p => joinL r (polSt p rq (tell es')).2) r = l.foldl (fun r p => joinL r (polSt p rq (tell es)).2) r := by
    intro l
    induction l with
    | nil => intro r _; rfl
    | cons p l ih =>
      intro r h
      rw [List.foldl_cons, List.foldl_cons, key p (h p (List.mem_cons_self ..))]
      exact ih _ fun x hx => h x (List.mem_cons_of_mem _ hx)
  rw [e1, e2 qs [] fun _ h => h]
theorem decide_all {ps : List Pol} {rq : Req} {es es' : List Ent} (hn : (es.map (·.uid)).Nodup) (hp : es'.Perm (sliceM es rq (manM ps (kindOf rq.p, rq.a, kindOf rq.r)))) (hE : ∀ p ∈ ps, ExprOk p.cond) :
    (decideM ps rq (tell es')).1 = (decideM ps rq (tell es)).1 := by
  unfold decideM
  simp only
  congr 1
  refine List.map_congr_left fun p h => ?_
  cases c : canApply p (kindOf rq.p, rq.a, kindOf rq.r) with
  | true => rw [polSt_alike hn hp h c (hE p h)]
  | false => rw [polSt_off c, polSt_off c]
end FF
set_option Elab.async false
set_option linter.all false
set_option maxRecDepth 100000
set_option maxHeartbeats 4000000
/-! what each def of the program promises -/
namespace FF
open PySem PySem.Spec PyProof.Rows L2

/-! ### what good data are -/
def Rising (ss : List Str) : Prop := ∀ i x y, ss[i]? = some x → ss[i + 1]? = some y → sLt x y = true
def textSign (c : Nat) : Bool := decide (32 ≤ c) && (decide (c ≤ 126) && (decide (c ≠ 34) && decide (c ≠ 37)))
def TextOk (s : Str) : Prop := s.length ≤ 40 ∧ s.cps.toList.all textSign = true
def ScalGood : Scal → Prop
  | .tr _ => True
  | .nu i => -1000000 ≤ i ∧ i ≤ 1000000
  | .tx s => TextOk s
  | .en u => isUid u = true
def rank : Scal → Nat
  | .tr _ => 0
  | .nu _ => 1
  | .tx _ => 2
  | .en _ => 3
def scalBefore : Scal → Scal → Bool
  | .tr a, .tr b => decide (b2i a < b2i b)
  | .nu i, .nu j => decide (i < j)
  | .tx s, .tx t => sLt s t
  | .en s, .en t => sLt s t
  | a, b => decide (rank a < rank b)
def ValGood : Val → Prop
  | .sc s => ScalGood s
  | .st l => l.length ≤ 8 ∧ (∀ s ∈ l, ScalGood s) ∧ ∀ i a b, l[i]? = some a → l[i + 1]? = some b → scalBefore a b = true
structure PairsGood (l : List (Str × Val)) : Prop where
  names : ∀ q ∈ l, isName q.1 = true
  vals : ∀ q ∈ l, ValGood q.2
  rising : Rising (l.map (·.1))
  len : l.length ≤ 8
structure EntGood (e : Ent) : Prop where
  uid : isUid e.uid = true
  attrs : PairsGood e.attrs
  par : ∀ u ∈ e.par, isUid u = true
  rising : Rising e.par
  len : e.par.length ≤ 6
structure DbOk (es : List Ent) : Prop where
  nodup : (es.map (·.uid)).Nodup
  len : es.length ≤ 40
  good : ∀ e ∈ es, EntGood e
  uni : ∃ U : List Str, U.length ≤ 50 ∧ ∀ e ∈ es, ∀ p ∈ e.par, p ∈ U
/-- a datum that deep comparison serves: a text, or a tuple of texts -/
def txt0 : PyData → Bool
  | .str s => PyData.strOk s
  | _ => false
def txt1 : PyData → Bool
  | .str s => PyData.strOk s
  | .tuple xs => xs.all txt0
  | _ => false
def readOk : Read → Bool
  | .attr u n => (PyData.strOk u && PyData.strOk n) && (decide (u.length ≤ 30) && decide (n.length ≤ 30))
  | .anc u => PyData.strOk u && decide (u.length ≤ 30)
def joinD (d1 d2 : List PyData) : List PyData := d2.foldl (fun j r => if (j.any fun z => PyData.eqv z r) = true then j else j ++ [r]) d1
def encInts (l : List Nat) : List PyData := l.map fun i : Nat => PyData.int (i : Int)
def encRole : Role → PyData
  | none => .none
  | some (p, n) => .tuple [.int p, .int n]
def encOV : Option Val → PyData
  | none => .none
  | some v => encVal v
def nodeW : Node → Str
  | .value _ => "value"
  | .prin => "principal"
  | .act => "action"
  | .res => "resource"
  | .ctx _ => "context"
  | .given _ => "given"
  | .one w _ _ => w.w
  | .not_ _ => "not"
  | .two w _ _ => w.w
  | .ite _ _ _ => "if"
def OpsLt (e : List Node) : Prop := ∀ k nd, e[k]? = some nd → ∀ o ∈ ops nd, o < k
structure ReqGood (rq : Req) : Prop where
  p : isUid rq.p = true
  a : isUid rq.a = true
  r : isUid rq.r = true
  ctx : rq.ctx.length ≤ 8
  vals : ∀ q ∈ rq.ctx, ValGood q.2
def PolGood (p : Pol) : Prop := ExprOk p.cond ∧ p.cond.length ≤ 1000 ∧ (∀ l, p.acts = some l → l.length ≤ 1000) ∧ ScopeGood p.pr ∧ ScopeGood p.rs
where
  ScopeGood : Scope → Prop
    | .is_ u => isUid u = true
    | .in_ u => isUid u = true
    | _ => True

section
variable (K : PySem.W.Frag)
abbrev CD : Addr := He.ga K "Database"
abbrev CW : Addr := He.ga K "Walk"
/-- a database stands at a -/
structure DbAt (H : Hp) (a : Addr) (es : List Ent) : Prop where
  ex : ∃ dx t kvs, H a = some (.ins (CD K) dx [(("_table" : Str), .ref t)]) ∧ H t = some (.dK kvs) ∧ kvs.map (·.1) = es.map (fun e => (Sum.inr e.uid : Key)) ∧ DpAll K H (kvs.map (·.2)) (es.map encEnt)
  ok : DbOk es
/-- a list of reads stands at a, to be grown -/
def RdsAt (H : Hp) (a : Addr) (rs : List Read) : Prop := rs.length ≤ 10000 ∧ (∀ r ∈ rs, readOk r = true) ∧ ∃ xs, H a = some (.lst xs) ∧ DpAll K H xs (rs.map encRead)

def sp_is_name : Sp := fun vs H Q _ => ∃ s : Str, vs = [.str s] ∧ s.length ≤ 100000 ∧ Q (.bl (isName s)) H
def sp_is_uid : Sp := fun vs H Q _ => ∃ s : Str, vs = [.str s] ∧ s.length ≤ 100000 ∧ ∀ H', Same H H' → Q (.bl (isUid s)) H'
def sp_kind_of : Sp := fun vs H Q _ => ∃ s : Str, vs = [.str s] ∧ s.length ≤ 100000 ∧ ∀ H', Same H H' → Q (.str (kindOf s)) H'
def sp_check_uid : Sp := fun vs H Q _ => ∃ s w : Str, vs = [.str s, .str w] ∧ isUid s = true ∧ ∀ H', Same H H' → Q .non H'
def sp_is_rising : Sp := fun vs H Q _ => ∃ (a : Addr) (ss : List Str), vs = [.ref a] ∧ (SqL K H a (ss.map V.str) ∨ SqT K H a (ss.map V.str)) ∧ Rising ss ∧ ∀ H', Same H H' → Q (.bl true) H'
def sp_is_text : Sp := fun vs H Q _ => ∃ s : Str, vs = [.str s] ∧ TextOk s ∧ Q (.bl true) H
def sp_is_scalar : Sp := fun vs H Q _ => ∃ v s, vs = [v] ∧ Dp K H v (encScal s) ∧ ScalGood s ∧ ∀ H', Same H H' → Q (.bl true) H'
def sp_scalar_before : Sp := fun vs H Q _ => ∃ v u a b, vs = [v, u] ∧ Dp K H v (encScal a) ∧ Dp K H u (encScal b) ∧ scalBefore a b = true ∧ Q (.bl true) H
def sp_is_value : Sp := fun vs H Q _ => ∃ v x, vs = [v] ∧ Dp K H v (encVal x) ∧ ValGood x ∧ ∀ H', Same H H' → Q (.bl true) H'
def sp_are_named : Sp := fun vs H Q _ => ∃ v m l, vs = [v, .int m] ∧ Dp K H v (encPairs l) ∧ PairsGood l ∧ 8 ≤ m ∧ ∀ H', Same H H' → Q (.bl true) H'
def optQ (o : Option Val) (H : Hp) (Q : VK) : Prop := (∀ x, o = some x → ∀ v, Dp K H v (encVal x) → Q v H) ∧ (o = none → Q .non H)
def sp_value_named : Sp := fun vs H Q _ => ∃ v n l, vs = [v, .str n] ∧ Dp K H v (encPairs l) ∧ optQ K (valNamed l n) H Q
def sp_context_value : Sp := fun vs H Q _ => ∃ v n rq, vs = [v, .str n] ∧ Dp K H v (encReq rq) ∧ optQ K (valNamed rq.ctx n) H Q
def sp_check_parents : Sp := fun vs H Q _ => ∃ v l, vs = [v] ∧ Dp K H v (encStrs l) ∧ l.length ≤ 6 ∧ Rising l ∧ (∀ u ∈ l, isUid u = true) ∧ ∀ H', Same H H' → Q .non H'
def sp_check_entity : Sp := fun vs H Q _ => ∃ v e, vs = [v] ∧ Dp K H v (encEnt e) ∧ EntGood e ∧ ∀ H', Same H H' → Q .non H'
def sp_Db_init : Sp := fun vs H Q _ => ∃ p dx v es, vs = [.ref p, v] ∧ H p = some (.ins (CD K) dx []) ∧ Dp K H v (.list (es.map encEnt)) ∧ DbOk es ∧ ∀ H' es', But p H H' → es'.Perm es → DbAt K H' p es' → Q .non H'
def sp_entities : Sp := fun vs H Q _ => ∃ a es, vs = [.ref a] ∧ DbAt K H a es ∧ ∀ D H', Same H H' → H D = none → Dp K H' (.ref D) (.list (es.map encEnt)) → Q (.ref D) H'
def sp_many : Sp := fun vs H Q _ => ∃ a es, vs = [.ref a] ∧ DbAt K H a es ∧ Q (.int es.length) H
def attrOf (es : List Ent) (u n : Str) : Option Val := match find es u with
  | none => none
  | some e => valNamed e.attrs n
def sp_attribute : Sp := fun vs H Q _ => ∃ a es u n, vs = [.ref a, .str u, .str n] ∧ DbAt K H a es ∧ optQ K (attrOf es u n) H Q
def sp_parents : Sp := fun vs H Q _ => ∃ a es u, vs = [.ref a, .str u] ∧ DbAt K H a es ∧ ∀ v H', Same H H' → Dp K H' v (encStrs (parOf es u)) → Q v H'
def sp_ancestors : Sp := fun vs H Q _ => ∃ a es u, vs = [.ref a, .str u] ∧ DbAt K H a es ∧ ∀ v H', Same H H' → Dp K H' v (encStrs (anc es u)) → Q v H'
def sp_tell : Sp := fun vs H Q _ => ∃ a es v r, vs = [.ref a, v] ∧ DbAt K H a es ∧ Dp K H v (encRead r) ∧ ∀ u H', Same H H' → Dp K H' u (encTold (tell es r)) → Q u H'
/-! expressions -/
def sp_operands : Sp := fun vs H Q _ => ∃ v nd, vs = [v] ∧ Dp K H v (encNode nd) ∧ ∀ u H', Same H H' → Dp K H' u (.tuple (encInts (ops nd))) → Q u H'
def sp_starts : Sp := fun vs H Q _ => ∃ v e, vs = [v] ∧ Dp K H v (encExpr e) ∧ OpsLt e ∧ e.length ≤ 1000 ∧ ∀ D H' xs, Same H H' → H D = none → H' D = some (.lst xs) → DpAll K H' xs (encInts (starts e)) → Q (.ref D) H'
def sp_roles : Sp := fun vs H Q _ => ∃ v e, vs = [v] ∧ Dp K H v (encExpr e) ∧ OpsLt e ∧ e.length ≤ 1000 ∧ ∀ D H' xs, Same H H' → H D = none → H' D = some (.lst xs) → DpAll K H' xs ((roles e).map encRole) → Q (.ref D) H'
def sp_join_reads : Sp := fun vs H Q _ => ∃ v u d1 d2, vs = [v, u] ∧ (Dp K H v (.list d1) ∨ Dp K H v (.tuple d1)) ∧ (Dp K H u (.list d2) ∨ Dp K H u (.tuple d2)) ∧ (d1.all txt1 = true ∧ d2.all txt1 = true) ∧ d1.length + d2.length ≤ 10000000 ∧
  ∀ D H', Same H H' → H D = none → Dp K H' (.ref D) (.list (joinD d1 d2)) → Q (.ref D) H'
def sp_truth : Sp := fun vs H Q _ => ∃ b, vs = [.bl b] ∧ ∀ v H', Same H H' → Dp K H' v (encOut (truth b)) → Q v H'
def sp_ask : Sp := fun vs H Q _ => ∃ a es v r rl rs, vs = [.ref a, v, .ref rl] ∧ DbAt K H a es ∧ Dp K H v (encRead r) ∧ readOk r = true ∧ RdsAt K H rl rs ∧ rs.length < 10000 ∧
  ∀ u H', But rl H H' → RdsAt K H' rl (noteRead rs (some r)) → Dp K H' u (encTold (tell es r)) → Q u H'
def sp_leaf : Sp := fun vs H Q _ => ∃ v q nd rq, vs = [v, q] ∧ Dp K H v (encNode nd) ∧ Dp K H q (encReq rq) ∧ ops nd = [] ∧ ∀ u H', Same H H' → Dp K H' u (encOut (leafOut rq nd)) → Q u H'
/-- the outcome, and what was asked noted at rl -/
def outQ (rl : Addr) (rs : List Read) (o : Out × Option Read) (H : Hp) (Q : VK) : Prop := ∀ u H', But rl H H' → RdsAt K H' rl (noteRead rs o.2) → Dp K H' u (encOut o.1) → Q u H'
def sp_attribute2 : Sp := fun vs H Q _ => ∃ vn vv a es rl rs w i n x, vs = [vn, vv, .ref a, .ref rl] ∧ Dp K H vn (encNode (.one w i n)) ∧ w ≠ .is_ ∧ isName n = true ∧ Dp K H vv (encVal x) ∧ ValGood x ∧ DbAt K H a es ∧ RdsAt K H rl rs ∧ rs.length < 10000 ∧ outQ K rl rs (oneOut (tell es) w n x) H Q
/-- what a node with one operand gives -/
def oneRes (tl : Read → Told) (nd : Node) (x : Val) : Out × Option Read := match nd with
  | .one w _ n => oneOut tl w n x
  | _ => (notOut x, none)
def sp_one : Sp := fun vs H Q _ => ∃ vn vv a es rl rs nd x, vs = [vn, vv, .ref a, .ref rl] ∧ Dp K H vn (encNode nd) ∧ (ops nd).length = 1 ∧ NodeOk nd ∧ Dp K H vv (encVal x) ∧ ValGood x ∧ DbAt K H a es ∧ RdsAt K H rl rs ∧ rs.length < 10000 ∧ outQ K rl rs (oneRes (tell es) nd x) H Q
def sp_uids : Sp := fun vs H Q _ => ∃ v x, vs = [v] ∧ Dp K H v (encVal x) ∧ ValGood x ∧ (uidsOf x = none → ∀ H', Same H H' → Q .non H') ∧ (∀ us, uidsOf x = some us → ∀ D H', Same H H' → H D = none → Dp K H' (.ref D) (.list (us.map PyData.str)) → Q (.ref D) H')
def sp_within : Sp := fun vs H Q _ => ∃ va vb a es rl rs x y, vs = [va, vb, .ref a, .ref rl] ∧ Dp K H va (encVal x) ∧ Dp K H vb (encVal y) ∧ ValGood x ∧ ValGood y ∧ DbAt K H a es ∧ RdsAt K H rl rs ∧ rs.length < 10000 ∧ outQ K rl rs (inOut (tell es) x y) H Q
def sp_two : Sp := fun vs H Q _ => ∃ vn va vb a es rl rs w i j x y, vs = [vn, va, vb, .ref a, .ref rl] ∧ Dp K H vn (encNode (.two w i j)) ∧ Dp K H va (encVal x) ∧ Dp K H vb (encVal y) ∧ ValGood x ∧ ValGood y ∧ DbAt K H a es ∧ RdsAt K H rl rs ∧ rs.length < 10000 ∧
  outQ K rl rs (twoOut (tell es) w x y) H Q
def sp_is_passed_on : Sp := fun vs H Q _ => ∃ v nd x, ∃ n : Nat, vs = [.str (nodeW nd), .int n, v] ∧ Dp K H v (encVal x) ∧ ValGood x ∧ Q (.bl (passedOn nd n x)) H
/-! the walk -/
structure WkAt (H : Hp) (wk : Addr) (e : List Node) (rq : Req) (a : Addr) (es : List Ent) (vl : Addr) (vals : Vals') (rd : Addr) (rs : List Read) : Prop where
  ex : ∃ dx ve vq rl sl, H wk = some (.ins (CW K) dx [(("_expression" : Str), ve), (("_request" : Str), vq), (("_source" : Str), .ref a), (("_roles" : Str), .ref rl), (("_starts" : Str), .ref sl), (("_values" : Str), .ref vl), (("reads" : Str), .ref rd)]) ∧
    Dp K H ve (encExpr e) ∧ Dp K H vq (encReq rq) ∧ Dp K H (.ref rl) (.list ((roles e).map encRole)) ∧ Dp K H (.ref sl) (.list (encInts (starts e))) ∧ rl ≠ vl ∧ rl ≠ rd ∧ sl ≠ vl ∧ sl ≠ rd ∧ vl ≠ rd
  db : DbAt K H a es
  vs : ∃ xs, H vl = some (.lst xs) ∧ DpAll K H xs (vals.map encOV)
  rs : RdsAt K H rd rs
  ok : ExprOk e
  elen : e.length ≤ 1000
  good : ∀ (k : Nat) (v : Val), vals.getD k none = some v → ValGood v
  vlen : vals.length = e.length
  goodL : ∀ nd ∈ e, ∀ v, nd = Node.value v → ValGood v
  goodQ : ∀ q ∈ rq.ctx, ValGood q.2
  goodU : isUid rq.p = true ∧ isUid rq.a = true ∧ isUid rq.r = true
/-- all but two lists stands -/
def But2 (x y : Addr) (H H' : Hp) : Prop := ∀ a u, a ≠ x → a ≠ y → H a = some u → H' a = some u
def sp_Wk_init : Sp := fun vs H Q _ => ∃ p dx ve vq a es e rq, vs = [.ref p, ve, vq, .ref a] ∧ H p = some (.ins (CW K) dx []) ∧ Dp K H ve (encExpr e) ∧ Dp K H vq (encReq rq) ∧ DbAt K H a es ∧ ExprOk e ∧ e.length ≤ 1000 ∧
  (∀ nd ∈ e, ∀ v, nd = Node.value v → ValGood v) ∧ (∀ q ∈ rq.ctx, ValGood q.2) ∧ (isUid rq.p = true ∧ isUid rq.a = true ∧ isUid rq.r = true) ∧
  ∀ H' vl rd, But p H H' → H vl = none → H rd = none → WkAt K H' p e rq a es vl (List.replicate e.length none) rd [] → Q .non H'
def sp_outcome : Sp := fun vs H Q _ => ∃ wk e rq a es vl vals rd rs nd, ∃ k : Nat, vs = [.ref wk, .int k] ∧ WkAt K H wk e rq a es vl vals rd rs ∧ e[k]? = some nd ∧ isIte nd = false ∧ (∀ o ∈ ops nd, hasV vals o) ∧ rs.length < 10000 ∧
  ∀ u H', But rd H H' → WkAt K H' wk e rq a es vl vals rd (noteRead rs (nodeOut (tell es) rq vals nd).2) → Dp K H' u (encOut (nodeOut (tell es) rq vals nd).1) → (∀ v, (nodeOut (tell es) rq vals nd).1 = .value v → ValGood v) → Q u H'
def sp_settle : Sp := fun vs H Q _ => ∃ wk e rq a es vl vals rd rs, ∃ k : Nat, vs = [.ref wk, .int k] ∧ WkAt K H wk e rq a es vl vals rd rs ∧ k < e.length ∧ hasV vals k ∧
  ∀ H', But vl H H' → WkAt K H' wk e rq a es vl (settle e (roles e) e.length k vals).2 rd rs → Q (match (settle e (roles e) e.length k vals).1 with
    | some s => .int (s : Nat)
    | none => .non) H'
def sp_behind : Sp := fun vs H Q _ => ∃ wk e rq a es vl vals rd rs p, ∃ k : Nat, vs = [.ref wk, .int k] ∧ WkAt K H wk e rq a es vl vals rd rs ∧ (roles e).getD k none = some p ∧ hasV vals k ∧ Q (.int (behind e (roles e) (starts e) vals k : Nat)) H
def sp_run : Sp := fun vs H Q _ => ∃ wk e rq a es vl rd, vs = [.ref wk] ∧ WkAt K H wk e rq a es vl (List.replicate e.length none) rd [] ∧
  ∀ u H' vals, But2 vl rd H H' → WkAt K H' wk e rq a es vl vals rd (evalM e rq (tell es)).2 → Dp K H' u (encOut (evalM e rq (tell es)).1) → Q u H'
def sp_evaluate : Sp := fun vs H Q _ => ∃ ve vq a es e rq, vs = [ve, vq, .ref a] ∧ Dp K H ve (encExpr e) ∧ Dp K H vq (encReq rq) ∧ DbAt K H a es ∧ ExprOk e ∧ e.length ≤ 1000 ∧
  (∀ nd ∈ e, ∀ v, nd = Node.value v → ValGood v) ∧ (∀ q ∈ rq.ctx, ValGood q.2) ∧ (isUid rq.p = true ∧ isUid rq.a = true ∧ isUid rq.r = true) ∧
  ∀ u H', Same H H' → Dp K H' u (.tuple [encOut (evalM e rq (tell es)).1, encReads (evalM e rq (tell es)).2]) → (evalM e rq (tell es)).2.length ≤ 10000 → Q u H'
end
end FF
set_option Elab.async false
set_option linter.all false
set_option maxRecDepth 100000
set_option maxHeartbeats 4000000
/-! what the defs' proofs share -/
namespace FF
open PySem PySem.Spec PyProof.Rows L2
theorem ifT {b : Bool} {A B : Prop} (hb : b = true) (h : A) : if b = true then A else B := by rw [if_pos hb]; exact h
theorem ifF {b : Bool} {A B : Prop} (hb : b = false) (h : B) : if b = true then A else B := by rw [hb, if_neg Bool.false_ne_true]; exact h
theorem ifB {b : Bool} {A B : Prop} (h1 : b = true → A) (h2 : b = false → B) : if b = true then A else B := by
  cases b with
  | true => exact iteT (h1 rfl)
  | false => exact iteF (h2 rfl)
theorem u65 {A : Around} {k : Nat} (hr : Room k A) : A.units + 65 < cLine := by have := hr.un; omega
theorem all_take {α : Type} {l : List α} {p : α → Bool} {i : Nat} {x : α} (h : (l.take i).all p = true) (hx : l[i]? = some x) (hp : p x = true) : (l.take (i + 1)).all p = true := by
  rw [List.take_add_one, hx]
  simp only [List.all_append, Option.toList, List.all_cons, List.all_nil, Bool.and_true, h, hp, Bool.and_self]
theorem sign_mem (c : Nat) : decide (c ∈ sg ("abcdefghijklmnopqrstuvwxyz0123456789" : Str)) = signOk c := by
  by_cases h : c < 128
  · revert c
    decide +kernel
  · have h1 : signOk c = false := by simp [signOk]; omega
    rw [h1, decide_eq_false_iff_not]
    intro hm
    have : ∀ x ∈ sg ("abcdefghijklmnopqrstuvwxyz0123456789" : Str), x < 128 := by decide +kernel
    exact h (this c hm)
/-- x.split(c) for one plain sign -/
theorem cut_spl (c : Nat) : ∀ (l acc : List Nat), TL.spl [c] 0 acc l = cutAt c acc l
  | [], acc => rfl
  | x :: r, acc => by
    by_cases h : x = c
    · subst h
      rw [TL.spl_hit (show TL.pre [x] (x :: r) = true from TL.pre_self [x] r)]
      simp [cutAt, cut_spl x r []]
    · rw [TL.spl_miss (TL.pre_of_head [] r h), cut_spl c r]
      simp [cutAt, h]
theorem split_is (s : Str) (c : Nat) (sep : Str) (hs : sg sep = [c]) (hc : c < 256) : Txt.split s sep = splitC c s := by
  have h := TL.split_spl s sep (by show sg sep ≠ []; rw [hs]; simp) (TL.kind_ok (by
    have e : sep.cps = #[c] := by
      apply Array.ext'
      exact hs
    rw [e]
    simp [hc]))
  have e2 : TL.tl sep = [c] := hs
  rw [e2, cut_spl] at h
  apply TL.map_tl_inj
  rw [h]
  unfold splitC
  rw [List.map_map]
  have : (TL.tl ∘ mkS) = id := by funext l; rfl
  rw [this, List.map_id]
theorem split_col (s : Str) : Txt.split s (":" : Str) = splitC 58 s := split_is s 58 _ sg_colon (by decide)
theorem split_dot (s : Str) : Txt.split s ("." : Str) = splitC 46 s := split_is s 46 _ sg_dot (by decide)
theorem splitC_ne (c : Nat) (s : Str) : splitC c s ≠ [] := by
  unfold splitC
  intro h
  exact cut_ne _ _ (List.map_eq_nil_iff.mp h)
theorem cut_len (c : Nat) : ∀ (l acc : List Nat), ∀ p ∈ cutAt c acc l, p.length ≤ acc.length + l.length
  | [], acc, p, h => by simp [cutAt] at h; subst h; omega
  | x :: r, acc, p, h => by
    simp only [cutAt] at h
    split at h
    · rcases List.mem_cons.mp h with e | h
      · subst e; simp
      · have := cut_len c r [] p h
        simp at this ⊢
        omega
    · have := cut_len c r (acc ++ [x]) p h
      simp at this ⊢
      omega
theorem split_len {c : Nat} {s p : Str} (h : p ∈ splitC c s) : p.length ≤ s.length := by
  unfold splitC at h
  obtain ⟨q, hq, rfl⟩ := List.mem_map.mp h
  have := cut_len c _ [] q hq
  simpa [mkS, Str.length] using this
theorem len_sg (s : Str) : s.length = (sg s).length := by simp [Str.length, sg]
theorem name_len {s : Str} (h : isName s = true) : s.length ≤ 12 := by
  unfold isName at h
  simp only [Bool.and_eq_true, decide_eq_true_eq] at h
  exact h.2.1
theorem uid_len {u : Str} (h : isUid u = true) : u.length ≤ 25 := by
  obtain ⟨a, b, e, ha, hb⟩ := uid_sg h
  have h1 := name_len ha
  have h2 := name_len hb
  rw [len_sg] at h1 h2 ⊢
  rw [e, List.length_append, List.length_cons]
  omega
theorem uid_kind {u : Str} (h : isUid u = true) : isName (kindOf u) = true := by
  obtain ⟨a, b, e, ha, hb⟩ := uid_two h
  unfold kindOf
  rw [e]
  exact ha
abbrev O_is_name (P : Program) (w : World) (K : PySem.W.Frag) (mg : Str → Option Value) (base : Heap) : Prop := FOk P w K mg base 1 (He.ga K "is_name") ["text"] [] sp_is_name
abbrev O_is_uid (P : Program) (w : World) (K : PySem.W.Frag) (mg : Str → Option Value) (base : Heap) : Prop := FOk P w K mg base 2 (He.ga K "is_uid") ["text"] [] sp_is_uid
abbrev O_kind_of (P : Program) (w : World) (K : PySem.W.Frag) (mg : Str → Option Value) (base : Heap) : Prop := FOk P w K mg base 1 (He.ga K "kind_of") ["uid"] [] sp_kind_of
abbrev O_is_rising (P : Program) (w : World) (K : PySem.W.Frag) (mg : Str → Option Value) (base : Heap) : Prop := FOk P w K mg base 1 (He.ga K "is_rising") ["texts"] [] (sp_is_rising K)
abbrev O_is_text (P : Program) (w : World) (K : PySem.W.Frag) (mg : Str → Option Value) (base : Heap) : Prop := FOk P w K mg base 1 (He.ga K "is_text") ["text"] [] sp_is_text
abbrev O_is_scalar (P : Program) (w : World) (K : PySem.W.Frag) (mg : Str → Option Value) (base : Heap) : Prop := FOk P w K mg base 3 (He.ga K "is_scalar") ["value"] [] (sp_is_scalar K)
abbrev O_scalar_before (P : Program) (w : World) (K : PySem.W.Frag) (mg : Str → Option Value) (base : Heap) : Prop := FOk P w K mg base 1 (He.ga K "scalar_before") ["one", "two"] [] (sp_scalar_before K)
abbrev O_is_value (P : Program) (w : World) (K : PySem.W.Frag) (mg : Str → Option Value) (base : Heap) : Prop := FOk P w K mg base 4 (He.ga K "is_value") ["value"] [] (sp_is_value K)
abbrev O_are_named (P : Program) (w : World) (K : PySem.W.Frag) (mg : Str → Option Value) (base : Heap) : Prop := FOk P w K mg base 5 (He.ga K "are_named") ["pairs", "most"] [] (sp_are_named K)
abbrev O_value_named (P : Program) (w : World) (K : PySem.W.Frag) (mg : Str → Option Value) (base : Heap) : Prop := FOk P w K mg base 1 (He.ga K "value_named") ["pairs", "name"] [] (sp_value_named K)
abbrev O_context_value (P : Program) (w : World) (K : PySem.W.Frag) (mg : Str → Option Value) (base : Heap) : Prop := FOk P w K mg base 2 (He.ga K "context_value") ["request", "name"] [] (sp_context_value K)
abbrev O_check_parents (P : Program) (w : World) (K : PySem.W.Frag) (mg : Str → Option Value) (base : Heap) : Prop := FOk P w K mg base 4 (He.ga K "_check_parents") ["parents"] [] (sp_check_parents K)
abbrev O_check_entity (P : Program) (w : World) (K : PySem.W.Frag) (mg : Str → Option Value) (base : Heap) : Prop := FOk P w K mg base 6 (He.ga K "check_entity") ["entity"] [] (sp_check_entity K)
abbrev O_Database_init (P : Program) (w : World) (K : PySem.W.Frag) (mg : Str → Option Value) (base : Heap) : Prop := FOk P w K mg base 7 (He.ma K (He.ga K "Database") "__init__") ["self", "entities"] [] (sp_Db_init K)
abbrev O_Database_entities (P : Program) (w : World) (K : PySem.W.Frag) (mg : Str → Option Value) (base : Heap) : Prop := FOk P w K mg base 1 (He.ma K (He.ga K "Database") "entities") ["self"] [] (sp_entities K)
abbrev O_Database_many (P : Program) (w : World) (K : PySem.W.Frag) (mg : Str → Option Value) (base : Heap) : Prop := FOk P w K mg base 1 (He.ma K (He.ga K "Database") "many") ["self"] [] (sp_many K)
abbrev O_Database_attribute (P : Program) (w : World) (K : PySem.W.Frag) (mg : Str → Option Value) (base : Heap) : Prop := FOk P w K mg base 2 (He.ma K (He.ga K "Database") "attribute") ["self", "uid", "name"] [] (sp_attribute K)
abbrev O_Database_parents (P : Program) (w : World) (K : PySem.W.Frag) (mg : Str → Option Value) (base : Heap) : Prop := FOk P w K mg base 1 (He.ma K (He.ga K "Database") "parents") ["self", "uid"] [] (sp_parents K)
abbrev O_Database_ancestors (P : Program) (w : World) (K : PySem.W.Frag) (mg : Str → Option Value) (base : Heap) : Prop := FOk P w K mg base 2 (He.ma K (He.ga K "Database") "ancestors") ["self", "uid"] [] (sp_ancestors K)
abbrev O_Database_tell (P : Program) (w : World) (K : PySem.W.Frag) (mg : Str → Option Value) (base : Heap) : Prop := FOk P w K mg base 3 (He.ma K (He.ga K "Database") "tell") ["self", "read"] [] (sp_tell K)
abbrev O_operands (P : Program) (w : World) (K : PySem.W.Frag) (mg : Str → Option Value) (base : Heap) : Prop := FOk P w K mg base 1 (He.ga K "operands") ["node"] [] (sp_operands K)
abbrev O_starts (P : Program) (w : World) (K : PySem.W.Frag) (mg : Str → Option Value) (base : Heap) : Prop := FOk P w K mg base 2 (He.ga K "starts") ["expression"] [] (sp_starts K)
abbrev O_roles (P : Program) (w : World) (K : PySem.W.Frag) (mg : Str → Option Value) (base : Heap) : Prop := FOk P w K mg base 2 (He.ga K "_roles") ["expression"] [] (sp_roles K)
abbrev O_join_reads (P : Program) (w : World) (K : PySem.W.Frag) (mg : Str → Option Value) (base : Heap) : Prop := FOk P w K mg base 1 (He.ga K "join_reads") ["one", "two"] [] (sp_join_reads K)
abbrev O_truth (P : Program) (w : World) (K : PySem.W.Frag) (mg : Str → Option Value) (base : Heap) : Prop := FOk P w K mg base 1 (He.ga K "truth") ["answer"] [] (sp_truth K)
abbrev O_ask (P : Program) (w : World) (K : PySem.W.Frag) (mg : Str → Option Value) (base : Heap) : Prop := FOk P w K mg base 4 (He.ga K "ask") ["source", "read", "reads"] [] (sp_ask K)
abbrev O_leaf (P : Program) (w : World) (K : PySem.W.Frag) (mg : Str → Option Value) (base : Heap) : Prop := FOk P w K mg base 3 (He.ga K "_leaf") ["node", "request"] [] (sp_leaf K)
abbrev O_attribute (P : Program) (w : World) (K : PySem.W.Frag) (mg : Str → Option Value) (base : Heap) : Prop := FOk P w K mg base 5 (He.ga K "_attribute") ["node", "value", "source", "reads"] [] (sp_attribute2 K)
abbrev O_one (P : Program) (w : World) (K : PySem.W.Frag) (mg : Str → Option Value) (base : Heap) : Prop := FOk P w K mg base 6 (He.ga K "_one") ["node", "value", "source", "reads"] [] (sp_one K)
abbrev O_uids (P : Program) (w : World) (K : PySem.W.Frag) (mg : Str → Option Value) (base : Heap) : Prop := FOk P w K mg base 1 (He.ga K "_uids") ["value"] [] (sp_uids K)
abbrev O_within (P : Program) (w : World) (K : PySem.W.Frag) (mg : Str → Option Value) (base : Heap) : Prop := FOk P w K mg base 5 (He.ga K "_within") ["one", "two", "source", "reads"] [] (sp_within K)
abbrev O_two (P : Program) (w : World) (K : PySem.W.Frag) (mg : Str → Option Value) (base : Heap) : Prop := FOk P w K mg base 6 (He.ga K "_two") ["node", "one", "two", "source", "reads"] [] (sp_two K)
abbrev O_is_passed_on (P : Program) (w : World) (K : PySem.W.Frag) (mg : Str → Option Value) (base : Heap) : Prop := FOk P w K mg base 1 (He.ga K "_is_passed_on") ["word", "number", "value"] [] (sp_is_passed_on K)
abbrev O_Walk_init (P : Program) (w : World) (K : PySem.W.Frag) (mg : Str → Option Value) (base : Heap) : Prop := FOk P w K mg base 3 (He.ma K (He.ga K "Walk") "__init__") ["self", "expression", "request", "source"] [] (sp_Wk_init K)
abbrev O_Walk_outcome (P : Program) (w : World) (K : PySem.W.Frag) (mg : Str → Option Value) (base : Heap) : Prop := FOk P w K mg base 7 (He.ma K (He.ga K "Walk") "_outcome") ["self", "at"] [] (sp_outcome K)
abbrev O_Walk_settle (P : Program) (w : World) (K : PySem.W.Frag) (mg : Str → Option Value) (base : Heap) : Prop := FOk P w K mg base 2 (He.ma K (He.ga K "Walk") "_settle") ["self", "at"] [] (sp_settle K)
abbrev O_Walk_behind (P : Program) (w : World) (K : PySem.W.Frag) (mg : Str → Option Value) (base : Heap) : Prop := FOk P w K mg base 1 (He.ma K (He.ga K "Walk") "_behind") ["self", "at"] [] (sp_behind K)
abbrev O_Walk_run (P : Program) (w : World) (K : PySem.W.Frag) (mg : Str → Option Value) (base : Heap) : Prop := FOk P w K mg base 8 (He.ma K (He.ga K "Walk") "run") ["self"] [] (sp_run K)
abbrev O_evaluate (P : Program) (w : World) (K : PySem.W.Frag) (mg : Str → Option Value) (base : Heap) : Prop := FOk P w K mg base 9 (He.ga K "evaluate") ["expression", "request", "source"] [] (sp_evaluate K)
abbrev O_check_uid1 (P : Program) (w : World) (K : PySem.W.Frag) (mg : Str → Option Value) (base : Heap) : Prop := FOk P w K mg base 3 (He.ga K "check_uid") ["text", "what"] [.str "uid"] sp_check_uid
abbrev O_check_uid (P : Program) (w : World) (K : PySem.W.Frag) (mg : Str → Option Value) (base : Heap) : Prop := FOk P w K mg base 3 (He.ga K "check_uid") ["text", "what"] [] sp_check_uid
end FF
set_option Elab.async false
set_option linter.all false
set_option maxRecDepth 100000
set_option maxHeartbeats 4000000
/-! readings of the rules -/
namespace FF
open PySem PySem.Spec PyProof.Rows L2
section
variable {K : PySem.W.Frag} {H : Hp} {Q : VK} {a : Addr} {xs : List V} {lo hi : Option Int}
theorem cutV_drop (xs : List V) (n : Nat) : cutV xs (some (n : Int)) none = xs.drop n := by
  unfold cutV
  rw [HT.sIx_nat, HT.sIx_none]
  by_cases h : n ≤ xs.length
  · rw [Nat.min_eq_left h, List.take_of_length_le (by simp)]
  · rw [Nat.min_eq_right (by omega), List.drop_eq_nil_of_le (by omega), List.drop_eq_nil_of_le (by omega), List.take_nil]
theorem cutV_take (xs : List V) (n : Nat) : cutV xs none (some (n : Int)) = xs.take n := by
  unfold cutV
  rw [HT.sIx_none, HT.sIx_nat, List.drop_zero, Nat.sub_zero]
  by_cases h : n ≤ xs.length
  · rw [Nat.min_eq_left h]
  · rw [Nat.min_eq_right (by omega), List.take_of_length_le (Nat.le_refl _), List.take_of_length_le (by omega)]
theorem cutV_takeN (xs : List V) (n : Nat) (hn : 0 < n) : cutV xs none (some (-(n : Int))) = xs.take (xs.length - n) := by
  unfold cutV
  rw [HT.sIx_none]
  have : HT.sIx xs.length xs.length (some (-(n : Int))) = xs.length - n := by
    show (if (-(n : Int)) < 0 then ((-(n : Int)) + (xs.length : Int)).toNat else _) = _
    rw [if_pos (by omega)]
    omega
  rw [this]
  simp
theorem slT (h : SqT K H a xs) (q : ∀ p H', Same H H' → SqT K H' p (cutV xs lo hi) → Q (.ref p) H') : rSlAny K (.ref a) lo hi H Q := by
  refine .inr (.inl ⟨a, xs, rfl, h, fun e => ?_, fun _ p hp => q p _ (same_new hp) (SqT.of upd_same)⟩)
  refine q a H (Same.refl _) ?_
  have : cutV xs lo hi = xs := by
    unfold cutV
    rw [e.1, e.2]
    simp
  rw [this]
  exact h
theorem slL (h : SqL K H a xs) (q : ∀ p H', Same H H' → H p = none → H' p = some (.lst (cutV xs lo hi)) → Q (.ref p) H') : rSlAny K (.ref a) lo hi H Q :=
  .inl ⟨a, xs, rfl, h, fun p hp => q p _ (same_new hp) hp upd_same⟩
theorem slS {z : Str} (h : z.length ≤ sizeLine) (q : Q (.str (cutS z lo hi)) H) : rSlAny K (.str z) lo hi H Q := .inr (.inr ⟨z, rfl, h, q⟩)
/-- a tuple's parts to names -/
theorem gp2 {T : Addr} {x y : V} {i j : Nat} {σ : L2.St} {R : L2.St → Hp → Prop} (h : SqT K H T [x, y]) (q : R ((σ.set i (some x)).set j (some y)) H) : gTup K 2 (gCons (gName i) (gCons (gName j) gNil)) (.ref T) σ H R :=
  ⟨T, [x, y], rfl, h, rfl, x, [y], rfl, y, [], rfl, rfl, q⟩
theorem gp3 {T : Addr} {x y z : V} {i j k : Nat} {σ : L2.St} {R : L2.St → Hp → Prop} (h : SqT K H T [x, y, z]) (q : R (((σ.set i (some x)).set j (some y)).set k (some z)) H) : gTup K 3 (gCons (gName i) (gCons (gName j) (gCons (gName k) gNil))) (.ref T) σ H R :=
  ⟨T, [x, y, z], rfl, h, rfl, x, [y, z], rfl, y, [z], rfl, z, [], rfl, rfl, q⟩
theorem gp6 {T : Addr} {x1 x2 x3 x4 x5 x6 : V} {i1 i2 i3 i4 i5 i6 : Nat} {σ : L2.St} {R : L2.St → Hp → Prop} (h : SqT K H T [x1, x2, x3, x4, x5, x6]) (q : R ((((((σ.set i1 (some x1)).set i2 (some x2)).set i3 (some x3)).set i4 (some x4)).set i5 (some x5)).set i6 (some x6)) H) :
    gTup K 6 (gCons (gName i1) (gCons (gName i2) (gCons (gName i3) (gCons (gName i4) (gCons (gName i5) (gCons (gName i6) gNil)))))) (.ref T) σ H R :=
  ⟨T, [x1, x2, x3, x4, x5, x6], rfl, h, rfl, x1, _, rfl, x2, _, rfl, x3, _, rfl, x4, _, rfl, x5, _, rfl, x6, [], rfl, rfl, q⟩
/-- walks over two sequences at once -/
theorem zTT {b : Addr} {ys : List V} {R : It → Hp → Prop} (h1 : SqT K H a xs) (h2 : SqT K H b ys) (q : R (RZ.ItzT K a b) H) :
    ∃ a' b' xs ys, [V.ref a, V.ref b] = [.ref a', .ref b'] ∧ ((SqL K H a' xs ∧ SqL K H b' ys ∧ R (Itz K a' b') H) ∨ (SqT K H a' xs ∧ SqT K H b' ys ∧ R (RZ.ItzT K a' b') H)) := ⟨a, b, xs, ys, rfl, .inr ⟨h1, h2, q⟩⟩
theorem zLL {b : Addr} {ys : List V} {R : It → Hp → Prop} (h1 : SqL K H a xs) (h2 : SqL K H b ys) (q : R (Itz K a b) H) :
    ∃ a' b' xs ys, [V.ref a, V.ref b] = [.ref a', .ref b'] ∧ ((SqL K H a' xs ∧ SqL K H b' ys ∧ R (Itz K a' b') H) ∨ (SqT K H a' xs ∧ SqT K H b' ys ∧ R (RZ.ItzT K a' b') H)) := ⟨a, b, xs, ys, rfl, .inl ⟨h1, h2, q⟩⟩
theorem map_at {α β : Type} {f : α → β} {l : List α} {i : Nat} {y : β} (h : (l.map f)[i]? = some y) : ∃ x, l[i]? = some x ∧ y = f x := by
  rw [List.getElem?_map] at h
  cases e : l[i]? with
  | none => rw [e] at h; cases h
  | some x => rw [e] at h; cases h; exact ⟨x, rfl, rfl⟩
theorem sqN {p : Addr} {xs : List V} (h : H p = some (.lst xs)) : SqL K H p xs := SqL.of h
/-- a tuple of a list -/
theorem tupL {p : Addr} {ys : List V} (h : SqL K H p ys) (q : ∀ l H', Same H H' → H l = none → SqT K H' l ys → Q (.ref l) H') :
    ∃ p' ys, [V.ref p] = [.ref p'] ∧ ((SqL K H p' ys ∧ ∀ l, H l = none → Q (.ref l) (upd H l (.tup ys))) ∨ (SqT K H p' ys ∧ Q (.ref p') H)) :=
  ⟨p, ys, rfl, .inl ⟨h, fun l hl => q l _ (same_new hl) hl (SqT.of upd_same)⟩⟩
theorem tupT {p : Addr} {ys : List V} (h : SqT K H p ys) (q : Q (.ref p) H) :
    ∃ p' ys, [V.ref p] = [.ref p'] ∧ ((SqL K H p' ys ∧ ∀ l, H l = none → Q (.ref l) (upd H l (.tup ys))) ∨ (SqT K H p' ys ∧ Q (.ref p') H)) := ⟨p, ys, rfl, .inr ⟨h, q⟩⟩
theorem dp_upd {v : V} {d : PyData} {p : Addr} {o : HO} (h : H p = none) (q : Dp K H v d) : Dp K (upd H p o) v d := dp_same (same_new h) q
theorem dp_of {p : Addr} {ds : List PyData} (h : SqT K H p xs) (q : DpAll K H xs ds) : Dp K H (.ref p) (.tuple ds) := .tup h q
theorem dp_ofL {p : Addr} {ds : List PyData} (h : SqL K H p xs) (q : DpAll K H xs ds) : Dp K H (.ref p) (.list ds) := .lst h q
end
theorem pg_tupK {X : Cx} {pos : Pos} (K : PySem.W.Frag) (n : Nat) {es : List Expr} {k : Nat} {t : TGs} (hK : X.K = K) (hc : X.calm = true) (h : PGs X es t)
    (hn : (assignEach es X.env).length = n := by rfl) (hst : (assignEach es X.env).findIdx? (·.1) = none := by rfl) : PG X (.Tuple es k pos) (gTup K n t) := by
  subst hK
  exact pg_tup hc h hn hst
/-- a comprehension's turn without tests -/
theorem tyes {σ : L2.St} {H : Hp} {A : Prop} {R : Bool → Hp → Prop} (hR : R true H = if true = true then A else R false H) (h : A) : tYes σ H R := by
  show R true H
  rw [hR, if_pos rfl]
  exact h
theorem find_at {α : Type} {p : α → Bool} : ∀ {l : List α} {i : Nat} {q : α}, l[i]? = some q → p q = true → (∀ x ∈ l.take i, p x = false) → l.find? p = some q
  | [], i, q, h, _, _ => by simp at h
  | x :: l, 0, q, h, hp, _ => by
    simp at h
    subst h
    simp [hp]
  | x :: l, i + 1, q, h, hp, hn => by
    have hx : p x = false := hn x (by simp)
    rw [List.find?_cons, hx]
    exact find_at (i := i) (by simpa using h) hp fun y hy => hn y (by simp [hy])
theorem enc_len {α : Type} {f : α → PyData} {K : PySem.W.Frag} {H : Hp} {xs : List V} {l : List α} (h : DpAll K H xs (l.map f)) : xs.length = l.length := by rw [dpAll_len h, List.length_map]
theorem enc_at {α : Type} {f : α → PyData} {K : PySem.W.Frag} {H : Hp} {xs : List V} {l : List α} {i : Nat} {v : V} (h : DpAll K H xs (l.map f)) (e : xs[i]? = some v) : ∃ x, l[i]? = some x ∧ Dp K H v (f x) := by
  obtain ⟨d, h1, h2⟩ := dpAll_at h e
  obtain ⟨x, h3, rfl⟩ := map_at h1
  exact ⟨x, h3, h2⟩
theorem enc_get {α : Type} {f : α → PyData} {K : PySem.W.Frag} {H : Hp} {xs : List V} {l : List α} {i : Nat} {x : α} (h : DpAll K H xs (l.map f)) (e : l[i]? = some x) : ∃ v, xs[i]? = some v ∧ Dp K H v (f x) :=
  dpAll_get h (by rw [List.getElem?_map, e]; rfl)
theorem mem_at {α : Type} {l : List α} {i : Nat} {x : α} (h : l[i]? = some x) : x ∈ l := List.mem_of_getElem? h
end FF
set_option Elab.async false
set_option linter.all false
set_option maxRecDepth 100000
set_option maxHeartbeats 4000000
/-! sorting, dicts -/
namespace FF
open PySem PySem.Spec PyProof.Rows L2
theorem hu_of {A : Around} {k : Nat} (hr : Room k A) : A.units + 1 < cLine := by have := u65 hr; omega
theorem inV_strs (s : Str) (l : List Str) : inV (.str s) (l.map V.str) = decide (s ∈ l) := by
  unfold inV
  rw [List.any_map]
  rw [Bool.eq_iff_iff, List.any_eq_true]
  simp [eqV, Function.comp]
theorem flat_strs (l : List Str) : (l.map V.str).all flatV = true := by
  rw [List.all_map, List.all_eq_true]
  intro x _
  rfl
def leS (a b : Str) : Prop := a.cps.toList ≤ b.cps.toList
theorem leS_trans {a b c : Str} (h1 : leS a b) (h2 : leS b c) : leS a c := List.le_trans h1 h2
theorem leS_anti {a b : Str} (h1 : leS a b) (h2 : leS b a) : a = b := sg_ext (List.le_antisymm h1 h2)
theorem leS_total (a b : Str) : leS a b ∨ leS b a := List.le_total _ _
theorem sLt_iff {a b : Str} : sLt a b = true ↔ ¬ leS b a := by
  unfold sLt leS
  rw [decide_eq_true_eq, List.not_le]
theorem rising_pw : ∀ {p : Str} {l : List Str}, risingS p l = true → (p :: l).Pairwise leS
  | p, [], _ => by simp
  | p, x :: r, h => by
    unfold risingS at h
    simp only [Bool.and_eq_true, Bool.not_eq_true'] at h
    have h2 := rising_pw h.2
    have h1 : leS p x := by
      have := h.1
      rw [ltCps_eq, decide_eq_false_iff_not, List.not_lt] at this
      exact this
    refine List.pairwise_cons.mpr ⟨fun y hy => ?_, h2⟩
    rcases List.mem_cons.mp hy with rfl | hy
    · exact h1
    · exact leS_trans h1 ((List.pairwise_cons.mp h2).1 y hy)
theorem sorted_pw {l : List Str} (h : sortedS l = true) : l.Pairwise leS := by
  cases l with
  | nil => simp
  | cons x r => exact rising_pw h
theorem ins_perm (a : Str) : ∀ l : List Str, (ins a l).Perm (a :: l)
  | [] => by simp [ins]
  | b :: l => by
    unfold ins
    split
    · exact ((ins_perm a l).cons b).trans (List.Perm.swap a b l)
    · exact List.Perm.refl _
theorem isort_perm : ∀ l : List Str, (isort l).Perm l
  | [] => by simp [isort]
  | a :: l => by
    unfold isort
    exact (ins_perm a _).trans ((isort_perm l).cons a)
theorem ins_pw (a : Str) : ∀ {l : List Str}, l.Pairwise leS → (ins a l).Pairwise leS
  | [], _ => by simp [ins]
  | b :: l, h => by
    unfold ins
    have hb := List.pairwise_cons.mp h
    split
    · rename_i hlt
      refine List.pairwise_cons.mpr ⟨fun y hy => ?_, ins_pw a hb.2⟩
      rcases List.mem_cons.mp ((ins_perm a l).mem_iff.mp hy) with rfl | hy
      · rw [sLt_iff] at hlt
        exact (leS_total b y).resolve_right hlt
      · exact hb.1 y hy
    · rename_i hlt
      have hab : leS a b := by
        rw [sLt_iff] at hlt
        exact Classical.not_not.mp hlt
      refine List.pairwise_cons.mpr ⟨fun y hy => ?_, h⟩
      rcases List.mem_cons.mp hy with rfl | hy
      · exact hab
      · exact leS_trans hab (hb.1 y hy)
theorem isort_pw : ∀ l : List Str, (isort l).Pairwise leS
  | [] => by simp [isort]
  | a :: l => by
    unfold isort
    exact ins_pw a (isort_pw l)
theorem sort_unique {xs ys : List Str} (h1 : ys.Perm xs) (h2 : sortedS ys = true) : ys = isort xs :=
  List.Perm.eq_of_pairwise (fun _ _ _ _ h h' => leS_anti h h') (sorted_pw h2) (isort_pw xs) (h1.trans (isort_perm xs).symm)
theorem rising_of {l : List Str} (h : l.Pairwise leS) (hn : l.Nodup) : Rising l := by
  intro i x y hx hy
  have hi : i + 1 < l.length := by
    rcases Nat.lt_or_ge (i + 1) l.length with h | h
    · exact h
    · rw [List.getElem?_eq_none h] at hy; cases hy
  have e1 : l[i] = x := by
    rw [List.getElem?_eq_getElem (by omega)] at hx
    exact Option.some.inj hx
  have e2 : l[i + 1] = y := by
    rw [List.getElem?_eq_getElem hi] at hy
    exact Option.some.inj hy
  have h1 := List.pairwise_iff_getElem.mp h i (i + 1) (by omega) hi (by omega)
  have h2 := List.pairwise_iff_getElem.mp hn i (i + 1) (by omega) hi (by omega)
  rw [e1, e2] at h1 h2
  rw [sLt_iff]
  exact fun h3 => h2 (leS_anti h1 h3)
theorem rising_sub {l : List Str} (h : Rising l) : l.Pairwise (fun a b => sLt a b = true) := by
  induction l with
  | nil => simp
  | cons a l ih =>
    have ih' := ih fun i x y hx hy => h (i + 1) x y (by simpa using hx) (by simpa using hy)
    refine List.pairwise_cons.mpr ⟨fun y hy => ?_, ih'⟩
    cases l with
    | nil => cases hy
    | cons b r =>
      have hab : sLt a b = true := h 0 a b rfl rfl
      rcases List.mem_cons.mp hy with rfl | hy
      · exact hab
      · have hby := (List.pairwise_cons.mp ih').1 y hy
        rw [sLt_iff] at hab hby ⊢
        intro hya
        rcases leS_total b y with hh | hh
        · exact hab (leS_trans hh hya)
        · exact hby hh
theorem rising_filter {l : List Str} (p : Str → Bool) (h : Rising l) : Rising (l.filter p) := by
  have := (rising_sub h).sublist (List.filter_sublist (p := p))
  intro i x y hx hy
  have hi : i + 1 < (l.filter p).length := by
    rcases Nat.lt_or_ge (i + 1) (l.filter p).length with h | h
    · exact h
    · rw [List.getElem?_eq_none h] at hy; cases hy
  have h1 := List.pairwise_iff_getElem.mp this i (i + 1) (by omega) hi (by omega)
  rw [List.getElem?_eq_getElem (by omega)] at hx
  rw [List.getElem?_eq_getElem hi] at hy
  rw [Option.some.inj hx, Option.some.inj hy] at h1
  exact h1
/-! the table of a database -/
section
variable {K : PySem.W.Frag} {H : Hp}
theorem tab_find {u : Str} : ∀ {es : List Ent} {kvs : List (Key × V)}, kvs.map (·.1) = es.map (fun e => (Sum.inr e.uid : Key)) → DpAll K H (kvs.map (·.2)) (es.map encEnt) →
    (find es u = none → valV kvs (Sum.inr u) = none) ∧ ∀ e, find es u = some e → ∃ v, valV kvs (Sum.inr u) = some v ∧ Dp K H v (encEnt e)
  | [], [], _, _ => ⟨fun _ => rfl, fun e h => by cases h⟩
  | e :: es, (k, v) :: kvs, h1, h2 => by
    simp only [List.map_cons, List.cons.injEq] at h1
    obtain ⟨hk, h1⟩ := h1
    cases h2 with
    | cons hv h2 =>
      have ih := tab_find (u := u) h1 h2
      by_cases hu : e.uid = u
      · have e1 : find (e :: es) u = some e := by simp [find, hu]
        have e2 : valV ((k, v) :: kvs) (Sum.inr u) = some v := valV_pos (by rw [hk, hu])
        rw [e1, e2]
        refine ⟨fun h => (nomatch h), fun e' h' => ?_⟩
        cases h'
        exact ⟨v, rfl, hv⟩
      · have e1 : find (e :: es) u = find es u := by simp [find, hu]
        have e2 : valV ((k, v) :: kvs) (Sum.inr u) = valV kvs (Sum.inr u) := valV_neg (by rw [hk]; intro h; injection h with h; exact hu h)
        rw [e1, e2]
        exact ih
  | [], _ :: _, h1, _ => by simp at h1
  | _ :: _, [], h1, _ => by simp at h1
theorem find_mem {es : List Ent} {u : Str} {e : Ent} (h : find es u = some e) : e ∈ es ∧ e.uid = u := by
  refine ⟨List.mem_of_find?_eq_some h, ?_⟩
  have := List.find?_some h
  simpa using this
theorem find_self : ∀ {es : List Ent} {e : Ent}, (es.map (·.uid)).Nodup → e ∈ es → find es e.uid = some e
  | a :: es, e, hn, hm => by
    simp only [List.map_cons, List.nodup_cons] at hn
    rcases List.mem_cons.mp hm with rfl | hm
    · simp [find]
    · have hne : ¬ a.uid = e.uid := fun h => hn.1 (by rw [h]; exact List.mem_map_of_mem hm)
      have : find (a :: es) e.uid = find es e.uid := by simp [find, hne]
      rw [this]
      exact find_self hn.2 hm
theorem find_none {es : List Ent} {u : Str} : find es u = none ↔ ∀ e ∈ es, e.uid ≠ u := by
  unfold find
  rw [List.find?_eq_none]
  simp
theorem find_permN {es es' : List Ent} {u : Str} (hp : es'.Perm es) (hn : (es.map (·.uid)).Nodup) : find es' u = find es u := by
  have hn' : (es'.map (·.uid)).Nodup := ((hp.map _).nodup_iff).mpr hn
  cases h : find es u with
  | none => rw [find_none] at h ⊢; exact fun e he => h e (hp.mem_iff.mp he)
  | some e =>
    obtain ⟨h1, h2⟩ := find_mem h
    rw [← h2]
    exact find_self hn' (hp.mem_iff.mpr h1)
end
/-- a dict comprehension over a walk -/
theorem dc_it {J : It} {n : Nat} {G : Hp → Prop} {Y : Nat → Hp → V → Hp → Prop} (w : L2.Walk J n G Y) {g : TG} {tt : TT} {tk tv : TE} {vs : List Nat} {σ : L2.St} {H1 : Hp} {D : Addr} {Qd : Hp → Prop} (Pv : Nat → Hp → Prop) (h0 : Pv 0 (upd H1 D (.dK []))) (hG : ∀ i H, i ≤ n → Pv i H → G H)
    (hs : ∀ i x H H', i < n → Pv i H → Y i H x H' → g x (wipe σ vs) H' fun σ2 H2 => wipe σ2 vs = wipe σ vs ∧ tt σ2 H2 fun b H3 =>
      if b = true then tk σ2 H3 fun y H4 => tv σ2 H4 fun z H5 => ∃ kvs k, y = kV k ∧ H5 D = some (.dK kvs) ∧ kvs.length < sizeLine ∧ Pv (i + 1) (upd H5 D (.dK (putK kvs k z))) else Pv (i + 1) H3) (hd : ∀ H, Pv n H → Qd H) :
    ∃ W : Nat → Nat → Hp → Prop, (∃ m, W 0 m (upd H1 D (.dK []))) ∧ ∀ i m H, W i m H →
      (J.stop i H ∧ Qd H) ∨ (J.go i H ∧ ∃ Nx : Hp → Prop, (∀ H', Nx H' → ∃ m', m' < m ∧ W (i + 1) m' H') ∧ ∀ x H', J.yld i H x H' → g x (wipe σ vs) H' fun σ2 H2 => wipe σ2 vs = wipe σ vs ∧ tt σ2 H2 fun b H3 =>
        if b = true then tk σ2 H3 fun y H4 => tv σ2 H4 fun z H5 => ∃ kvs k, y = kV k ∧ H5 D = some (.dK kvs) ∧ kvs.length < sizeLine ∧ Nx (upd H5 D (.dK (putK kvs k z))) else Nx H3) := by
  refine ⟨fun i m H => m = n - i ∧ i ≤ n ∧ Pv i H, ⟨n, by simp, Nat.zero_le _, h0⟩, ?_⟩
  rintro i m H ⟨rfl, hi, p⟩
  have q := hG i H hi p
  by_cases hlt : i < n
  · refine .inr ⟨w.goes i H hlt q, Pv (i + 1), fun H' p' => ⟨n - (i + 1), by omega, rfl, hlt, p'⟩, fun x H' y => hs i x H H' hlt p (w.yields i H x H' hlt q y)⟩
  · have e : i = n := by omega
    subst e
    exact .inl ⟨w.stops H q, hd H p⟩

/-! data without lists -/
theorem noLs_map {α : Type} {f : α → PyData} (h : ∀ x, noL (f x) = true) : ∀ l : List α, noLs (l.map f) = true
  | [] => rfl
  | x :: l => by simp [noLs, h x, noLs_map h l]
theorem noL_scal (s : Scal) : noL (encScal s) = true := by cases s <;> rfl
theorem noL_val (v : Val) : noL (encVal v) = true := by
  cases v with
  | sc s => exact noL_scal s
  | st l => simp [encVal, noL, noLs, noLs_map noL_scal l]
theorem noL_strs (l : List Str) : noL (encStrs l) = true := by simp [encStrs, noL, noLs_map (f := PyData.str) (fun _ => rfl) l]
theorem noL_pair (p : Str × Val) : noL (encPair p) = true := by simp [encPair, noL, noLs, noL_val]
theorem noL_pairs (l : List (Str × Val)) : noL (encPairs l) = true := by simp [encPairs, noL, noLs_map noL_pair l]
theorem noL_ent (e : Ent) : noL (encEnt e) = true := by simp [encEnt, noL, noLs, noL_pairs, noL_strs]
theorem noLs_ents (l : List Ent) : noLs (l.map encEnt) = true := noLs_map noL_ent l
theorem noL_node (n : Node) : noL (encNode n) = true := by cases n <;> simp [encNode, noL, noLs, noL_val]
theorem noL_expr (e : List Node) : noL (encExpr e) = true := by simp [encExpr, noL, noLs_map noL_node e]
theorem noL_read (r : Read) : noL (encRead r) = true := by cases r <;> rfl
theorem noL_told (t : Told) : noL (encTold t) = true := by cases t <;> simp [encTold, noL, noLs, noL_val, noL_strs]
theorem noL_req (r : Req) : noL (encReq r) = true := by simp [encReq, noL, noLs, noL_pairs]
theorem noL_scope (s : Scope) : noL (encScope s) = true := by cases s <;> rfl
theorem noL_acts (a : Option (List Str)) : noL (encActs a) = true := by cases a <;> simp [encActs, noL, noL_strs]
theorem noL_pol (p : Pol) : noL (encPol p) = true := by simp [encPol, noL, noLs, noL_scope, noL_acts, noL_expr]
theorem noL_out (o : Out) : noL (encOut o) = true := by cases o <;> simp [encOut, noL, noLs, noL_val]
theorem noL_role (r : Role) : noL (encRole r) = true := by
  cases r with
  | none => rfl
  | some p => rfl
end FF
set_option Elab.async false
set_option linter.all false
set_option maxRecDepth 100000
set_option maxHeartbeats 4000000
/-! deep equality of the data; the table PARTS -/
namespace FF
open PySem PySem.Spec PyProof.Rows L2
/-! ### shaped data -/
theorem strOk_all {s : Str} (h : ∀ c ∈ sg s, c < 1114112) : PyData.strOk s = true := by
  unfold PyData.strOk
  rw [Array.all_eq_true]
  intro i hi
  simp only [decide_eq_true_eq]
  exact h _ (by simp [sg])
theorem strOk_mem {s : Str} (h : PyData.strOk s = true) : ∀ c ∈ sg s, c < 1114112 := by
  intro c hc
  unfold PyData.strOk at h
  rw [Array.all_eq_true] at h
  obtain ⟨i, hi, e⟩ := List.getElem_of_mem hc
  have hi' : i < s.cps.size := by simpa [sg] using hi
  have := h i hi'
  simp only [decide_eq_true_eq] at this
  have e2 : s.cps[i] = c := by rw [← e]; simp [sg]
  rw [e2] at this
  exact this
theorem strOk_app {a b : Str} (ha : PyData.strOk a = true) (hb : PyData.strOk b = true) : PyData.strOk (a ++ b) = true := by
  refine strOk_all fun c hc => ?_
  rw [sg_append] at hc
  rcases List.mem_append.mp hc with h | h
  · exact strOk_mem ha c h
  · exact strOk_mem hb c h
theorem strOk_name {s : Str} (h : isName s = true) : PyData.strOk s = true := by
  refine strOk_all fun c hc => ?_
  unfold isName at h
  simp only [Bool.and_eq_true] at h
  have := List.all_eq_true.mp h.2.2 c hc
  unfold signOk at this
  simp only [Bool.or_eq_true, Bool.and_eq_true, decide_eq_true_eq] at this
  omega
theorem strOk_uid {s : Str} (h : isUid s = true) : PyData.strOk s = true := by
  obtain ⟨a, b, e, ha, hb⟩ := uid_sg h
  refine strOk_all fun c hc => ?_
  rw [e] at hc
  rcases List.mem_append.mp hc with h | h
  · exact strOk_mem (strOk_name ha) c h
  · rcases List.mem_cons.mp h with rfl | h
    · omega
    · exact strOk_mem (strOk_name hb) c h
theorem strOk_text {s : Str} (h : TextOk s) : PyData.strOk s = true := by
  refine strOk_all fun c hc => ?_
  have := List.all_eq_true.mp h.2 c hc
  unfold textSign at this
  simp only [Bool.and_eq_true, decide_eq_true_eq] at this
  omega
theorem lay_all {α : Type} {f : α → PyData} {l : List α} (h : ∀ x ∈ l, (f x).canLay0 = true) : PyData.canLayAll0 (l.map f) = true := by
  induction l with
  | nil => rfl
  | cons x l ih =>
    show ((f x).canLay0 && PyData.canLayAll0 (l.map f)) = true
    rw [h x (by simp), ih fun y hy => h y (by simp [hy])]
    rfl
theorem dep_all {α : Type} {f : α → PyData} {l : List α} {n : Nat} (h : ∀ x ∈ l, (f x).depth ≤ n) : PyData.depthAll (l.map f) ≤ n := by
  induction l with
  | nil => exact Nat.zero_le _
  | cons x l ih =>
    show max (f x).depth (PyData.depthAll (l.map f)) ≤ n
    have h1 := h x (by simp)
    have h2 := ih fun y hy => h y (by simp [hy])
    omega
theorem lay_scal {s : Scal} (h : ScalGood s) : (encScal s).canLay0 = true := by
  have t1 : PyData.strOk "truth" = true := by decide +kernel
  have t2 : PyData.strOk "number" = true := by decide +kernel
  have t3 : PyData.strOk "text" = true := by decide +kernel
  have t4 : PyData.strOk "entity" = true := by decide +kernel
  cases s with
  | tr b => simp [encScal, PyData.canLay0, PyData.canLayAll0, t1]
  | nu i => simp [encScal, PyData.canLay0, PyData.canLayAll0, t2]
  | tx z => simp [encScal, PyData.canLay0, PyData.canLayAll0, t3, strOk_text h]
  | en u => simp [encScal, PyData.canLay0, PyData.canLayAll0, t4, strOk_uid h]
theorem dep_scal (s : Scal) : (encScal s).depth = 1 := by cases s <;> rfl
theorem lay_val {v : Val} (h : ValGood v) : (encVal v).canLay0 = true := by
  cases v with
  | sc s => exact lay_scal h
  | st l =>
    have t1 : PyData.strOk "set" = true := by decide +kernel
    simp [encVal, PyData.canLay0, PyData.canLayAll0, t1]
    exact lay_all fun x hx => lay_scal (h.2.1 x hx)
theorem dep_val (v : Val) : (encVal v).depth ≤ 3 := by
  cases v with
  | sc s => show (encScal s).depth ≤ 3; rw [dep_scal]; decide
  | st l =>
    have := dep_all (f := encScal) (l := l) (n := 1) fun x _ => Nat.le_of_eq (dep_scal x)
    simp [encVal, PyData.depth, PyData.depthAll]
    omega
theorem shp {d : PyData} (h1 : d.canLay0 = true) (h2 : d.depth ≤ 64) : SeqAt.shaped d = true := by
  unfold SeqAt.shaped
  rw [h1]
  simp [h2]
theorem shp_val {v : Val} (h : ValGood v) : SeqAt.shaped (encVal v) = true := shp (lay_val h) (by have := dep_val v; omega)
theorem read_attr {u n : Str} (hu : isUid u = true) (hn : isName n = true) : readOk (.attr u n) = true := by
  have h1 := uid_len hu
  have h2 := name_len hn
  simp [readOk, strOk_uid hu, strOk_name hn, show u.length ≤ 30 by omega, show n.length ≤ 30 by omega]
theorem read_anc {u : Str} (hu : isUid u = true) : readOk (.anc u) = true := by
  have h1 := uid_len hu
  simp [readOk, strOk_uid hu, show u.length ≤ 30 by omega]
theorem lay_read {r : Read} (h : readOk r = true) : (encRead r).canLay0 = true := by
  have t1 : PyData.strOk "attribute" = true := by decide +kernel
  have t2 : PyData.strOk "ancestors" = true := by decide +kernel
  cases r with
  | attr u n =>
    simp only [readOk, Bool.and_eq_true] at h
    simp [encRead, PyData.canLay0, PyData.canLayAll0, t1, h.1.1, h.1.2]
  | anc u =>
    simp only [readOk, Bool.and_eq_true] at h
    simp [encRead, PyData.canLay0, PyData.canLayAll0, t2, h.1]
theorem dep_read (r : Read) : (encRead r).depth = 1 := by cases r <;> rfl
theorem shp_read {r : Read} (h : readOk r = true) : SeqAt.shaped (encRead r) = true := shp (lay_read h) (by rw [dep_read]; decide)
theorem shp_reads {rs : List Read} (h : ∀ r ∈ rs, readOk r = true) : SeqAt.shaped (.list (rs.map encRead)) = true := by
  refine shp (by simp only [PyData.canLay0]; exact lay_all fun r hr => lay_read (h r hr)) ?_
  have := dep_all (f := encRead) (l := rs) (n := 1) fun x _ => Nat.le_of_eq (dep_read x)
  simp only [PyData.depth]
  omega
theorem txt_lay {d : PyData} (h : txt1 d = true) : d.canLay0 = true ∧ d.depth ≤ 1 := by
  cases d with
  | str s => exact ⟨h, Nat.zero_le _⟩
  | tuple xs =>
    have h' : xs.all txt0 = true := h
    have h0 : ∀ x ∈ xs, x.canLay0 = true ∧ x.depth = 0 := fun x hx => by
      have := List.all_eq_true.mp h' x hx
      cases x with
      | str s => exact ⟨this, rfl⟩
      | _ => cases this
    constructor
    · simp only [PyData.canLay0]
      have := lay_all (f := id) (l := xs) fun x hx => (h0 x hx).1
      simpa using this
    · have := dep_all (f := id) (l := xs) (n := 0) fun x hx => Nat.le_of_eq (h0 x hx).2
      simp only [List.map_id] at this
      simp only [PyData.depth]
      omega
  | none => cases h
  | bool b => cases h
  | int i => cases h
  | list l => cases h
  | dict l => cases h
theorem txt_lays {ds : List PyData} (h : ds.all txt1 = true) : SeqAt.shaped (.list ds) = true := by
  have h0 : ∀ x ∈ ds, x.canLay0 = true ∧ x.depth ≤ 1 := fun x hx => txt_lay (List.all_eq_true.mp h x hx)
  refine shp ?_ ?_
  · simp only [PyData.canLay0]
    have := lay_all (f := id) (l := ds) fun x hx => (h0 x hx).1
    simpa using this
  · have := dep_all (f := id) (l := ds) (n := 1) fun x hx => (h0 x hx).2
    simp only [List.map_id] at this
    simp only [PyData.depth]
    omega
theorem txt_read {r : Read} (h : readOk r = true) : txt1 (encRead r) = true := by
  have t1 : PyData.strOk "attribute" = true := by decide +kernel
  have t2 : PyData.strOk "ancestors" = true := by decide +kernel
  cases r with
  | attr u n =>
    simp only [readOk, Bool.and_eq_true] at h
    simp [encRead, txt1, txt0, t1, h.1.1, h.1.2]
  | anc u =>
    simp only [readOk, Bool.and_eq_true] at h
    simp [encRead, txt1, txt0, t2, h.1]
/-! ### equal data -/
theorem eqv_list {α : Type} [DecidableEq α] {f : α → PyData} (h : ∀ a b, PyData.eqv (f a) (f b) = decide (a = b)) : ∀ l m : List α, PyData.eqvAll (l.map f) (m.map f) = decide (l = m)
  | [], [] => by simp [PyData.eqvAll]
  | [], _ :: _ => by simp [PyData.eqvAll]
  | _ :: _, [] => by simp [PyData.eqvAll]
  | a :: l, b :: m => by
    simp only [List.map_cons, PyData.eqvAll, h, eqv_list h l m]
    rw [Bool.eq_iff_iff]
    simp
theorem eqv_scal (a b : Scal) : PyData.eqv (encScal a) (encScal b) = decide (a = b) := by
  rw [Bool.eq_iff_iff, decide_eq_true_eq]
  cases a <;> cases b <;> simp [encScal, PyData.eqv, PyData.eqvAll] <;> (intro h; exact absurd h (by decide +kernel))
theorem eqv_val (a b : Val) : PyData.eqv (encVal a) (encVal b) = decide (a = b) := by
  rw [Bool.eq_iff_iff, decide_eq_true_eq]
  cases a with
  | sc s =>
    cases b with
    | sc t =>
      show PyData.eqv (encScal s) (encScal t) = true ↔ _
      rw [eqv_scal]
      simp
    | st m => cases s <;> simp [encVal, encScal, PyData.eqv, PyData.eqvAll] <;> intro h <;> revert h <;> decide
  | st l =>
    cases b with
    | sc t => cases t <;> simp [encVal, encScal, PyData.eqv, PyData.eqvAll] <;> intro h <;> revert h <;> decide
    | st m =>
      simp only [encVal, PyData.eqv, PyData.eqvAll, eqv_list eqv_scal]
      simp
theorem eqv_read (a b : Read) : PyData.eqv (encRead a) (encRead b) = decide (a = b) := by
  rw [Bool.eq_iff_iff, decide_eq_true_eq]
  cases a <;> cases b <;> simp [encRead, PyData.eqv, PyData.eqvAll]
theorem eqv_str (a b : Str) : PyData.eqv (.str a) (.str b) = decide (a = b) := by
  rw [Bool.eq_iff_iff, decide_eq_true_eq]
  simp [PyData.eqv]
theorem any_eqv {α : Type} [DecidableEq α] {f : α → PyData} (h : ∀ a b, PyData.eqv (f a) (f b) = decide (a = b)) (l : List α) (x : α) : ((l.map f).any fun z => PyData.eqv z (f x)) = decide (x ∈ l) := by
  rw [List.any_map, Bool.eq_iff_iff, List.any_eq_true, decide_eq_true_eq]
  constructor
  · rintro ⟨y, hy, e⟩
    simp only [Function.comp, h, decide_eq_true_eq] at e
    exact e ▸ hy
  · intro hx
    exact ⟨x, hx, by simp [Function.comp, h]⟩
theorem joinD_map {α : Type} [DecidableEq α] {f : α → PyData} (h : ∀ a b, PyData.eqv (f a) (f b) = decide (a = b)) (l : List α) : ∀ m : List α, joinD (l.map f) (m.map f) = (joinL l m).map f := by
  intro m
  unfold joinD joinL
  induction m generalizing l with
  | nil => rfl
  | cons x m ih =>
    simp only [List.map_cons, List.foldl_cons]
    rw [any_eqv h]
    by_cases hx : x ∈ l
    · simp only [hx, decide_true, if_true]
      exact ih l
    · simp only [hx, decide_false, if_false, Bool.false_eq_true]
      have := ih (l ++ [x])
      rw [List.map_append] at this
      exact this
/-! ### the table PARTS -/
section
variable {w : World} {K : PySem.W.Frag} {mg : Str → Option Value}
theorem parts_kd (T : Top w K mg) : ∃ es n, KDict K w (He.ga K "PARTS") es n := T.says.tab 0
theorem parts_none (T : Top w K mg) {z : Str} (h : z ∉ (["principal", "action", "resource"] : List Str)) : PySem.W.nsIn K (He.ga K "PARTS") z = some none := by
  have e : ts.map (fun t => He.dicW K (t.1 K)) = ts.map fun t => some (He.keysIn w.params t.2) := congrArg (fun z : He.AlT => z.2) T.says
  have e2 : He.dicW K (He.ga K "PARTS") = some (He.keysIn w.params ["principal", "action", "resource"]) := (List.cons.inj e).1
  unfold He.dicW at e2
  unfold PySem.W.nsIn
  split at e2
  · rename_i c es m sl hl
    rw [hl]
    split at e2
    · have e3 := Option.some.inj e2
      have key : ∀ en ∈ es.toList, ∃ x t, en.key = Value.str x t ∧ x ∈ (["principal", "action", "resource"] : List Str) := fun en hen => by
        have : He.keyOf en ∈ He.keysIn w.params ["principal", "action", "resource"] := by rw [← e3]; exact List.mem_map_of_mem hen
        obtain ⟨x, hx, hk⟩ := List.mem_map.mp this
        unfold He.keyOf at hk
        split at hk
        · rename_i y t q
          obtain ⟨h1, h2⟩ := Prod.mk.inj (Option.some.inj hk)
          exact ⟨_, _, q, h1 ▸ hx⟩
        · cases hk
      have f1 : es.toList.find? (·.key.isStr z) = none := by
        rw [List.find?_eq_none]
        intro en hen
        obtain ⟨x, t, hk, hx⟩ := key en hen
        rw [hk]
        intro hz
        have : x = z := by simpa [Value.isStr] using hz
        exact h (this ▸ hx)
      have f2 : es.toList.any (·.refKey) = false := by
        rw [List.any_eq_false]
        intro en hen
        obtain ⟨x, t, hk, hx⟩ := key en hen
        unfold DictEntry.refKey
        rw [hk]
        simp
      simp only [f1, f2]
      rfl
    · cases e2
  · cases e2
theorem parts_some (T : Top w K mg) {z : Str} {i : Int} (h : (z, He.Dv.int i) ∈ ([("principal", .int 0), ("action", .int 1), ("resource", .int 2)] : List (Str × He.Dv))) : ∃ u, PySem.W.nsIn K (He.ga K "PARTS") z = some (some u) ∧ RelV (.int i) u := He.valsB_ok (parts_vals T) h
end
/-! an item of a table of the module -/
section
variable {X : Cx} {d : Addr} {es : Array DictEntry} {n : Nat} {o i : Expr} {pos : Pos} {td ty : TE}
def rKd (K : PySem.W.Frag) (d : Addr) : R2 := fun x y H Q => ∃ (z : Str) (u0 : Value) (v0 : V), x = .ref d ∧ y = .str z ∧ PySem.W.nsIn K d z = some (some u0) ∧ RelV v0 u0 ∧ Q v0 H
theorem pe_kdget (D : KDict X.K X.w d es n) (ho : PE X o td) (hi : PE X i ty) (hs : NoSl i) : PE X (.Subscript o i pos) (tOp (rKd X.K d) td ty) := by
  refine ⟨fun pins s σ H Q I h => ?_⟩
  refine subD_of PySem.F.slot_dict_getitem.lookup hs (thn (ho.run pins s σ H _ I h) fun u s1 ⟨x, H1, I1, rx, q1⟩ => thn (hi.run pins s1 σ H1 _ I1 q1) fun iv s2 ⟨y, H2, I2, ry, q⟩ => ?_)
  have q0 := q
  obtain ⟨z, u0, v0, ex, ey, e, r, q⟩ := q
  subst ex
  obtain rfl : u = Value.ref d := rx
  exact ⟨kd_type D I2, op_item_kd D pins s2 σ H2 (V.ref d) y (Value.ref d) iv Q I2 rfl ry q0⟩
end
theorem yes_dp {w : World} {K : PySem.W.Frag} {mg : Str → Option Value} (T : Top w K mg) (H : Hp) : Dp K H (.ref (He.ga K "YES")) (encVal (.sc (.tr true))) := .tup (t_YES T H) (.cons (.str _) (.cons (.bl _) .nil))
theorem no_dp {w : World} {K : PySem.W.Frag} {mg : Str → Option Value} (T : Top w K mg) (H : Hp) : Dp K H (.ref (He.ga K "NO")) (encVal (.sc (.tr false))) := .tup (t_NO T H) (.cons (.str _) (.cons (.bl _) .nil))
theorem wk_dp {w : World} {K : PySem.W.Frag} {mg : Str → Option Value} (T : Top w K mg) (H : Hp) : Dp K H (.ref (He.ga K "WRONG_KIND")) (encOut wrongKind) := .tup (t_WRONG_KIND T H) (.cons (.str _) (.cons (.str _) .nil))
theorem ne_dp {w : World} {K : PySem.W.Frag} {mg : Str → Option Value} (T : Top w K mg) (H : Hp) : Dp K H (.ref (He.ga K "NO_ENTITY")) (encOut (.fails "no entity")) := .tup (t_NO_ENTITY T H) (.cons (.str _) (.cons (.str _) .nil))
theorem na_dp {w : World} {K : PySem.W.Frag} {mg : Str → Option Value} (T : Top w K mg) (H : Hp) : Dp K H (.ref (He.ga K "NO_ATTRIBUTE")) (encOut (.fails "no attribute")) := .tup (t_NO_ATTRIBUTE T H) (.cons (.str _) (.cons (.str _) .nil))
end FF
set_option Elab.async false
set_option linter.all false
set_option maxRecDepth 100000
set_option maxHeartbeats 4000000
namespace FF
open PySem PySem.Spec PyProof.Rows L2
local macro_rules | `(tactic| walk_at "r") => `(tactic| repeat (first
   | refine ⟨_, rfl, ?_⟩
   | refine ⟨_, _, rfl, rfl, ?_⟩
   | refine ⟨rfl, ?_⟩
   | refine rixT (by assumption) rfl ?_
   | refine rixL (by assumption) rfl ?_
   | refine ifT (by decide +kernel) ?_
   | refine ifF (by decide +kernel) ?_))
section
variable {P : Program} {w : World} {K : PySem.W.Frag} {mg : Str → Option Value} {base : Heap}
theorem ok_is_name (T : Top w K mg) : O_is_name P w K mg base := by
  refine mk_ok (f_is_name T) sc_is_name rfl rfl (fun _ _ _ _ _ _ us hl => match us, hl with | [_], _ => rfl) (fun vs H Q E h => ?_) (fun f cdv A outer s H vs Q E hr h => ?_)
  · obtain ⟨s, rfl, _⟩ := h
    rfl
  · obtain ⟨z, rfl, hz, k⟩ := h
    have sc := sc_is_name
    refine ⟨_, (pss_cons (ps_if (pt_not (pt_chain op_le op_le pe_int (pe_callB call_len (by rfl) (n_len T) PySem.boot_len (pa_cons (pv 0) pa_nil)) (pe_gint (c_NAME_MOST T))))
      (pss_one (ps_ret pe_bl))
      pss_nil)
      (pss_cons (ps_for PassesOwn.never rfl (pi_str (pv 0)) (pg_name (i := 1) sc.nd rfl (Or.inl rfl))
      (pss_one (ps_if (pt_cmpR op_notIn_sign (pv 1) (pe_gstr (c_NAME_SIGNS T)) rfl)
        (pss_one (ps_ret pe_bl))
        pss_nil)))
      (pss_one (ps_ret pe_bl)))), ?_⟩
    refine ⟨_, rfl, _, z.length, rfl, lenS (szl hz), ?_⟩
    walk_at "r"
    refine ifB (fun h1 => ?_) (fun h1 => ?_)
    · walk_at "r"
      have h1' : 1 ≤ z.length := by have := of_decide_eq_true h1; omega
      refine ifB (fun h2 => ?_) (fun h2 => ?_)
      · have h3 : ¬ z.length ≤ 12 := by simp at h2; omega
        have e : isName z = false := by simp [isName, h3]
        show Q (V.bl false) H
        rw [← e]; exact k
      · have h3 : z.length ≤ 12 := by simp at h2; omega
        refine ⟨_, rfl, z, rfl, for_it walk_str (fun i σ H' => H' = H ∧ (∃ o, σ = [some (.str z), o]) ∧ (z.cps.toList.take i).all signOk = true) ⟨rfl, ⟨_, rfl⟩, rfl⟩ (fun _ _ _ _ _ => trivial) ?_ ?_⟩
        · rintro i x σ H1 H2 hi ⟨rfl, ⟨o, rfl⟩, ha⟩ ⟨rfl, c, hc, rfl⟩
          refine ⟨_, rfl, c, _, rfl, rfl, _, rfl, ?_⟩
          refine ifB (fun h4 => ?_) (fun h4 => ?_)
          · have h5 : signOk c = false := by rw [← sign_mem]; simpa using h4
            have e : isName z = false := by
              have hm : c ∈ z.cps.toList := by
                have := Array.mem_of_getElem? hc
                simpa using this
              unfold isName
              have : z.cps.toList.all signOk = false := by
                rw [List.all_eq_false]
                exact ⟨c, hm, by simp [h5]⟩
              rw [this]; simp
            show Q (V.bl false) H2
            rw [← e]; exact k
          · have h5 : signOk c = true := by rw [← sign_mem]; simpa using h4
            exact ⟨rfl, ⟨_, rfl⟩, all_take ha (by simpa using hc) h5⟩
        · rintro σ H1 ⟨rfl, ⟨o, rfl⟩, ha⟩
          have e : isName z = true := by
            have : z.cps.toList.all signOk = true := by simpa [List.take_of_length_le] using ha
            unfold isName
            rw [this]; simp [h1', h3]
          show Q (V.bl true) H1
          rw [← e]; exact k
    · have h3 : ¬ 1 ≤ z.length := by have := of_decide_eq_false h1; omega
      have e : isName z = false := by simp [isName, h3]
      refine ⟨_, rfl, ?_⟩
      show Q (V.bl false) H
      rw [← e]; exact k
theorem ok_is_uid (T : Top w K mg) (h_is_name : O_is_name P w K mg base) : O_is_uid P w K mg base := by
  refine mk_ok (f_is_uid T) sc_is_uid rfl rfl (fun _ _ _ _ _ _ us hl => match us, hl with | [_], _ => rfl) (fun vs H Q E h => ?_) (fun f cdv A outer s H vs Q E hr h => ?_)
  · obtain ⟨s, rfl, _⟩ := h
    rfl
  · obtain ⟨z, rfl, hz, k⟩ := h
    have sc := sc_is_uid
    refine ⟨_, (pss_cons (ps_set (i := 1) sc.nd rfl (Or.inl rfl) (pe_split (pv 0) pe_str))
      (pss_one (ps_ret (pe_and (pe_cmpR op_eq (pe_callB call_len (by rfl) (n_len T) PySem.boot_len (pa_cons (pv 1) pa_nil)) pe_int (nomark _)) (pe_and (pe_u h_is_name hr rfl (g_is_name T) (pa_cons (pe_ix ix_seq (pv 1) pe_int (fun _ _ => rfl)) pa_nil)) (pe_one (pe_u h_is_name hr rfl (g_is_name T) (pa_cons (pe_ix ix_seq (pv 1) pe_int (fun _ _ => rfl)) pa_nil)))))))), ?_⟩
    refine ⟨_, rfl, ⟨_, rfl⟩, _, _, rfl, rfl, rfl, Nat.le_trans (Nat.add_le_add_right hz 2) (by decide), fun p hp => ?_⟩
    have hL : SqL K (upd H p (.lst ((Txt.split z (":" : Str)).map V.str))) p ((splitC 58 z).map V.str) := by rw [← split_col]; exact SqL.of upd_same
    have hS := same_new (o := .lst ((Txt.split z (":" : Str)).map V.str)) hp
    refine ⟨_, rfl, _, _, rfl, lenL hL, rfl, _, rfl, ?_⟩
    have fin : ∀ b, isUid z = b → Q (.bl b) (upd H p (.lst ((Txt.split z (":" : Str)).map V.str))) := fun b hb => by rw [← hb]; exact k _ hS
    refine ifB (fun h1 => ?_) (fun h1 => ?_)
    · have h2 : (splitC 58 z).length = 2 := by
        have := of_decide_eq_true h1
        injection this with this
        simp at this
        omega
      obtain ⟨a, b, hab⟩ : ∃ a b, splitC 58 z = [a, b] := by
        match q : splitC 58 z, h2 with
        | [a, b], _ => exact ⟨a, b, rfl⟩
      have la : a.length ≤ 100000 := Nat.le_trans (split_len (by rw [hab]; simp)) hz
      have lb : b.length ≤ 100000 := Nat.le_trans (split_len (by rw [hab]; simp)) hz
      rw [hab] at hL
      have eU : isUid z = (isName a && isName b) := by unfold isUid; rw [hab]
      refine ⟨_, rfl, rixL hL rfl ⟨a, rfl, la, isName a, rfl, ?_⟩⟩
      refine ifB (fun h3 => ?_) (fun h3 => ?_)
      · refine ⟨_, rfl, rixL hL rfl ⟨b, rfl, lb, fin _ ?_⟩⟩
        rw [eU, h3, Bool.true_and]
      · exact fin _ (by rw [eU, h3, Bool.false_and])
    · refine fin _ ?_
      have h2 : (splitC 58 z).length ≠ 2 := fun q => by
        have := of_decide_eq_false h1
        apply this
        simp [q]
      unfold isUid
      split
      · rename_i a b e
        rw [e] at h2
        exact absurd rfl h2
      · rfl
theorem ok_kind_of (T : Top w K mg) : O_kind_of P w K mg base := by
  refine mk_ok (f_kind_of T) sc_kind_of rfl rfl (fun _ _ _ _ _ _ us hl => match us, hl with | [_], _ => rfl) (fun vs H Q E h => ?_) (fun f cdv A outer s H vs Q E hr h => ?_)
  · obtain ⟨s, rfl, _⟩ := h
    rfl
  · obtain ⟨z, rfl, hz, k⟩ := h
    have sc := sc_kind_of
    refine ⟨_, (pss_one (ps_ret (pe_ix ix_seq (pe_split (pv 0) pe_str) pe_int (fun _ _ => rfl)))), ?_⟩
    refine ⟨_, rfl, ⟨_, rfl⟩, _, _, rfl, rfl, rfl, Nat.le_trans (Nat.add_le_add_right hz 2) (by decide), fun p hp => ?_⟩
    have hL : SqL K (upd H p (.lst ((Txt.split z (":" : Str)).map V.str))) p ((splitC 58 z).map V.str) := by rw [← split_col]; exact SqL.of upd_same
    have hS := same_new (o := .lst ((Txt.split z (":" : Str)).map V.str)) hp
    cases q : splitC 58 z with
    | nil => exact absurd q (splitC_ne _ _)
    | cons a r =>
      rw [q] at hL
      have e : kindOf z = a := by unfold kindOf; rw [q]; rfl
      refine rixL hL (atI_nat (j := 0) rfl) ?_
      show Q (V.str a) _
      rw [← e]
      exact k _ hS
theorem ok_check_uid (T : Top w K mg) (h_is_uid : O_is_uid P w K mg base) : O_check_uid P w K mg base ∧ O_check_uid1 P w K mg base := by
  obtain ⟨fd, F⟩ := f_check_uid T
  have key : FnOk P w K mg base CX0 3 (He.ga K "check_uid") fd ["text", "what"] sp_check_uid := by
    refine FunD.ok F sc_check_uid (fun vs H Q E h => ?_) (fun cdv A outer s H vs Q E hr h => ?_)
    · obtain ⟨s, w, rfl, _⟩ := h
      rfl
    · obtain ⟨z, wd, rfl, hz, k⟩ := h
      refine ⟨_, PSs.nox (pss_one (ps_if (pt_not (pt_val (pe_u h_is_uid hr rfl (g_is_uid T) (pa_cons (pv 0) pa_nil))))
        (pss_one ps_never)
        pss_nil)), ?_⟩
      refine ⟨_, rfl, z, rfl, Nat.le_trans (uid_len hz) (by decide), fun H' hS => ⟨_, rfl, ?_⟩⟩
      refine ifF (by rw [hz]; rfl) ?_
      exact k H' hS
  refine ⟨?_, ?_⟩
  · obtain ⟨ds, h1, h2⟩ := FunD.binds1 (ps := ["text", "what"]) F 2 1 (by show [V.str "uid"] ≠ []; simp) rfl (fun T kV doc pm an cdv ct us its hl hi => by
      match us, hl, its, hi with
      | [a, c], _, [b], _ => exact ⟨_, rfl, rfl⟩)
    exact ⟨⟨fd, ds, key, h2, h1⟩, F.kp⟩
  · obtain ⟨ds, h1, h2⟩ := FunD.binds1 (ps := ["text", "what"]) F 1 0 (by show [V.str "uid"] ≠ []; simp) rfl (fun T kV doc pm an cdv ct us its hl hi => by
      match us, hl, its, hi with
      | [a], _, [b], _ => exact ⟨_, rfl, rfl⟩)
    exact ⟨⟨fd, ds, key, h2, h1⟩, F.kp⟩
end
end FF
set_option Elab.async false
set_option linter.all false
set_option maxRecDepth 100000
set_option maxHeartbeats 4000000
namespace FF
open PySem PySem.Spec PyProof.Rows L2
local macro_rules | `(tactic| walk_at "r") => `(tactic| repeat (first
   | refine ⟨_, rfl, ?_⟩
   | refine ⟨_, _, rfl, rfl, ?_⟩
   | refine ⟨rfl, ?_⟩
   | refine rixT (by assumption) rfl ?_
   | refine rixL (by assumption) rfl ?_
   | refine ifT (by decide +kernel) ?_
   | refine ifF (by decide +kernel) ?_))
section
variable {P : Program} {w : World} {K : PySem.W.Frag} {mg : Str → Option Value} {base : Heap}
theorem ok_is_rising (T : Top w K mg) : O_is_rising P w K mg base := by
  refine mk_ok (f_is_rising T) sc_is_rising rfl rfl (fun _ _ _ _ _ _ us hl => match us, hl with | [_], _ => rfl) (fun vs H Q E h => ?_) (fun f cdv A outer s H vs Q E hr h => ?_)
  · obtain ⟨a, ss, rfl, _⟩ := h
    rfl
  · obtain ⟨a, ss, rfl, hq, hR, k⟩ := h
    have sc := sc_is_rising
    refine ⟨_, (pss_cons (ps_for PassesOwn.never rfl (RZ.pi_zipA (by rfl) (n_zip T) (pa_cons (pv 0) (pa_cons (pe_slice sl_any (pv 0) (po_some pe_int) po_none) pa_nil))) (pg_tup rfl (pgs_cons (pg_name (i := 1) sc.nd rfl (Or.inl rfl)) (pgs_cons (pg_name (i := 2) sc.nd rfl (Or.inl rfl)) pgs_nil)))
      (pss_one (ps_if (pt_cmpR op_ge_str (pv 1) (pv 2) (nomark _))
        (pss_one (ps_ret pe_bl))
        pss_nil)))
      (pss_one (ps_ret pe_bl))), ?_⟩
    refine ⟨_, rfl, _, rfl, _, rfl, ?_⟩
    have step : ∀ (i : Nat) (x y : V), (ss.map V.str)[i]? = some x → ((ss.map V.str).drop 1)[i]? = some y → ∃ s t : Str, x = V.str s ∧ y = V.str t ∧ sLt s t = true := by
      intro i x y hx hy
      obtain ⟨s1, e1, rfl⟩ := map_at hx
      rw [List.getElem?_drop] at hy
      obtain ⟨s2, e2, rfl⟩ := map_at hy
      exact ⟨s1, s2, rfl, rfl, hR i s1 s2 e1 (by rw [Nat.add_comm]; exact e2)⟩
    rcases hq with hq | hq
    · refine slL hq fun p H' hS _ hp => ⟨_, _, _, _, rfl, .inl ⟨sqL_same hS hq, sqN hp, ?_⟩⟩
      rw [show (some (1 : Int)) = some ((1 : Nat) : Int) from rfl, cutV_drop] at hp
      refine for_it (walk_zip rfl) (fun i σ H1 => Same H' H1 ∧ ∃ o1 o2, σ = [some (.ref a), o1, o2]) ⟨Same.refl _, _, _, rfl⟩ (fun _ _ H1 _ h => ⟨sqL_same (hS.trans h.1) hq, sqL_same h.1 (sqN hp)⟩) ?_ ?_
      · rintro i x σ H1 H2 hi ⟨hS1, o1, o2, rfl⟩ ⟨U, x, y, rfl, hU, rfl, hx, hy⟩
        obtain ⟨s1, s2, rfl, rfl, hlt⟩ := step i x y hx hy
        refine gp2 (SqT.of upd_same) ⟨_, rfl, _, rfl, s1, s2, rfl, rfl, ?_⟩
        refine ⟨_, rfl, ifF (by unfold sLt at hlt; rw [hlt]; rfl) ⟨hS1.trans (same_new hU), _, _, rfl⟩⟩
      · rintro σ H1 ⟨hS1, o1, o2, rfl⟩
        exact k H1 (hS.trans hS1)
    · refine slT hq fun p H' hS hp => ⟨_, _, _, _, rfl, .inr ⟨sqT_same hS hq, hp, ?_⟩⟩
      rw [show (some (1 : Int)) = some ((1 : Nat) : Int) from rfl, cutV_drop] at hp
      refine for_it (walk_zipT rfl) (fun i σ H1 => Same H' H1 ∧ ∃ o1 o2, σ = [some (.ref a), o1, o2]) ⟨Same.refl _, _, _, rfl⟩ (fun _ _ H1 _ h => ⟨sqT_same (hS.trans h.1) hq, sqT_same h.1 hp⟩) ?_ ?_
      · rintro i x σ H1 H2 hi ⟨hS1, o1, o2, rfl⟩ ⟨U, x, y, rfl, hU, rfl, hx, hy⟩
        obtain ⟨s1, s2, rfl, rfl, hlt⟩ := step i x y hx hy
        refine gp2 (SqT.of upd_same) ⟨_, rfl, _, rfl, s1, s2, rfl, rfl, ?_⟩
        refine ⟨_, rfl, ifF (by unfold sLt at hlt; rw [hlt]; rfl) ⟨hS1.trans (same_new hU), _, _, rfl⟩⟩
      · rintro σ H1 ⟨hS1, o1, o2, rfl⟩
        exact k H1 (hS.trans hS1)
theorem ok_is_text (T : Top w K mg) : O_is_text P w K mg base := by
  refine mk_ok (f_is_text T) sc_is_text rfl rfl (fun _ _ _ _ _ _ us hl => match us, hl with | [_], _ => rfl) (fun vs H Q E h => ?_) (fun f cdv A outer s H vs Q E hr h => ?_)
  · obtain ⟨s, rfl, _⟩ := h
    rfl
  · obtain ⟨z, rfl, hz, k⟩ := h
    have sc := sc_is_text
    refine ⟨_, (pss_cons (ps_if (pt_cmpR op_gt (pe_callB call_len (by rfl) (n_len T) PySem.boot_len (pa_cons (pv 0) pa_nil)) (pe_gint (c_TEXT_MOST T)) (nomark _))
      (pss_one (ps_ret pe_bl))
      pss_nil)
      (pss_cons (ps_for PassesOwn.never rfl (pi_str (pv 0)) (pg_name (i := 1) sc.nd rfl (Or.inl rfl))
      (pss_one (ps_if (PW.pt (pw_or (pt_not (pt_chain op_le op_le pe_int (pe_callB call_ord (by rfl) (n_ord T) (by decide +kernel) (pa_cons (pv 1) pa_nil)) pe_int)) (pw_or1 (pt_cmpR op_in_seq (pe_callB call_ord (by rfl) (n_ord T) (by decide +kernel) (pa_cons (pv 1) pa_nil)) (pe_gref (g_UNFIT T)) rfl))))
        (pss_one (ps_ret pe_bl))
        pss_nil)))
      (pss_one (ps_ret pe_bl)))), ?_⟩
    refine ⟨_, rfl, _, z.length, rfl, lenS (Nat.le_trans hz.1 (by decide)), _, _, rfl, rfl, _, rfl, ifF (by have := hz.1; simp; omega) ?_⟩
    refine ⟨_, rfl, z, rfl, for_it walk_str (fun i σ H' => H' = H ∧ (∃ o, σ = [some (.str z), o])) ⟨rfl, ⟨_, rfl⟩⟩ (fun _ _ _ _ _ => trivial) ?_ ?_⟩
    · rintro i x σ H1 H2 hi ⟨rfl, ⟨o, rfl⟩⟩ ⟨rfl, c, hc, rfl⟩
      have hm : c ∈ z.cps.toList := by
        have := Array.mem_of_getElem? hc
        simpa using this
      have ht := List.all_eq_true.mp hz.2 c hm
      unfold textSign at ht
      simp only [Bool.and_eq_true, decide_eq_true_eq] at ht
      have e0 : (((⟨#[c]⟩ : Str).cps.getD 0 0 : Nat)) = c := rfl
      refine ⟨_, rfl, _, rfl, rfl, _, _, rfl, rfl, _, rfl, ifT (by simp; exact_mod_cast ht.1) ⟨_, _, rfl, rfl, _, rfl, ?_⟩⟩
      refine ifF (by simp; exact_mod_cast ht.2.1) ?_
      refine ⟨_, rfl, _, rfl, rfl, _, _, rfl, .inr (t_UNFIT T _), rfl, rfl, _, rfl, ifF ?_ ⟨rfl, _, rfl⟩⟩
      have a1 : ¬ ((c : Int) = 34) := by have := ht.2.2.1; omega
      have a2 : ¬ ((c : Int) = 37) := by have := ht.2.2.2; omega
      show inV (V.int (c : Nat)) [.int 34, .int 37] = false
      simp [inV, eqV]
      constructor <;> omega
    · rintro σ H1 ⟨rfl, ⟨o, rfl⟩⟩
      exact k
end
end FF
set_option Elab.async false
set_option linter.all false
set_option maxRecDepth 100000
set_option maxHeartbeats 4000000
namespace FF
open PySem PySem.Spec PyProof.Rows L2
local macro_rules | `(tactic| walk_at "r") => `(tactic| repeat (first
   | refine ⟨_, rfl, ?_⟩
   | refine ⟨_, _, rfl, rfl, ?_⟩
   | refine ⟨rfl, ?_⟩
   | refine rixT (by assumption) rfl ?_
   | refine rixL (by assumption) rfl ?_
   | refine ifT (by decide +kernel) ?_
   | refine ifF (by decide +kernel) ?_))
section
variable {P : Program} {w : World} {K : PySem.W.Frag} {mg : Str → Option Value} {base : Heap}
theorem ok_is_scalar (T : Top w K mg) (h_is_text : O_is_text P w K mg base) (h_is_uid : O_is_uid P w K mg base) : O_is_scalar P w K mg base := by
  refine mk_ok (f_is_scalar T) sc_is_scalar rfl rfl (fun _ _ _ _ _ _ us hl => match us, hl with | [_], _ => rfl) (fun vs H Q E h => ?_) (fun f cdv A outer s H vs Q E hr h => ?_)
  · obtain ⟨v, s, rfl, _⟩ := h
    rfl
  · obtain ⟨v, sc0, rfl, hd, hg, k⟩ := h
    have sc := sc_is_scalar
    refine ⟨_, (pss_cons (ps_if (pt_cmpR op_eq (pe_ix ix_seq (pv 0) pe_int (fun _ _ => rfl)) pe_str (nomark _))
      (pss_one (ps_ret (pe_chain op_le op_le (pe_un un_neg (pe_gint (c_NUMBER_MOST T))) (pe_ix ix_seq (pv 0) pe_int (fun _ _ => rfl)) (pe_gint (c_NUMBER_MOST T)))))
      pss_nil)
      (pss_cons (ps_if (pt_cmpR op_eq (pe_ix ix_seq (pv 0) pe_int (fun _ _ => rfl)) pe_str (nomark _))
      (pss_one (ps_ret (pe_u h_is_text hr rfl (g_is_text T) (pa_cons (pe_ix ix_seq (pv 0) pe_int (fun _ _ => rfl)) pa_nil))))
      pss_nil)
      (pss_cons (ps_if (pt_cmpR op_eq (pe_ix ix_seq (pv 0) pe_int (fun _ _ => rfl)) pe_str (nomark _))
      (pss_one (ps_ret (pe_u h_is_uid hr rfl (g_is_uid T) (pa_cons (pe_ix ix_seq (pv 0) pe_int (fun _ _ => rfl)) pa_nil))))
      pss_nil)
      (pss_one (ps_ret (pe_cmpR op_eq (pe_ix ix_seq (pv 0) pe_int (fun _ _ => rfl)) pe_str (nomark _))))))), ?_⟩
    have fin : ∀ (b : Bool) H', Same H H' → b = true → Q (.bl b) H' := fun b H' hS e => by rw [e]; exact k H' hS
    cases sc0 with
    | tr b =>
      obtain ⟨a, x, y, rfl, hq, h1, h2⟩ := dp2 hd
      obtain rfl := dpS h1
      walk_at "r"
      exact k H (Same.refl _)
    | nu i =>
      obtain ⟨a, x, y, rfl, hq, h1, h2⟩ := dp2 hd
      obtain rfl := dpS h1
      obtain rfl := dpI h2
      walk_at "r"
      refine ifT (by simpa using hg.1) ?_
      walk_at "r"
      exact fin _ H (Same.refl _) (by simpa using hg.2)
    | tx z =>
      obtain ⟨a, x, y, rfl, hq, h1, h2⟩ := dp2 hd
      obtain rfl := dpS h1
      obtain rfl := dpS h2
      walk_at "r"
      exact ⟨hg, k H (Same.refl _)⟩
    | en z =>
      obtain ⟨a, x, y, rfl, hq, h1, h2⟩ := dp2 hd
      obtain rfl := dpS h1
      obtain rfl := dpS h2
      walk_at "r"
      refine ⟨Nat.le_trans (uid_len hg) (by decide), fun H' hS => ?_⟩
      exact fin _ H' hS hg
def rks : List Str := ["truth", "number", "text", "entity"]
theorem ok_scalar_before (T : Top w K mg) : O_scalar_before P w K mg base := by
  refine mk_ok (f_scalar_before T) sc_scalar_before rfl rfl (fun _ _ _ _ _ _ us hl => match us, hl with | [_, _], _ => rfl) (fun vs H Q E h => ?_) (fun f cdv A outer s H vs Q E hr h => ?_)
  · obtain ⟨v, u, a, b, rfl, _⟩ := h
    rfl
  · obtain ⟨v, u, a, b, rfl, hd, he, hb, k⟩ := h
    have sc := sc_scalar_before
    refine ⟨_, (pss_cons (ps_if (pt_cmpR op_ne (pe_ix ix_seq (pv 0) pe_int (fun _ _ => rfl)) (pe_ix ix_seq (pv 1) pe_int (fun _ _ => rfl)) (nomark _))
      (pss_one (ps_ret (pe_cmpR op_lt_any (pe_bm PySem.F.plainAttrs_tuple PySem.F.slot_tuple_index PySem.F.type_tuple_index mt_tup_index (pe_gref (g_RANKS T)) (pa_cons (pe_ix ix_seq (pv 0) pe_int (fun _ _ => rfl)) pa_nil)) (pe_bm PySem.F.plainAttrs_tuple PySem.F.slot_tuple_index PySem.F.type_tuple_index mt_tup_index (pe_gref (g_RANKS T)) (pa_cons (pe_ix ix_seq (pv 1) pe_int (fun _ _ => rfl)) pa_nil)) (nomark _))))
      pss_nil)
      (pss_one (ps_ret (pe_cmpR op_lt_any (pe_ix ix_seq (pv 0) pe_int (fun _ _ => rfl)) (pe_ix ix_seq (pv 1) pe_int (fun _ _ => rfl)) (nomark _))))), ?_⟩
    have fin : ∀ (b' : Bool), b' = true → Q (.bl b') H := fun b' e => by rw [e]; exact k
    cases a <;> cases b <;> (
      obtain ⟨a, x, y, rfl, hq, h1, h2⟩ := dp2 hd
      obtain ⟨a', x', y', rfl, hq', h1', h2'⟩ := dp2 he
      obtain rfl := dpS h1
      obtain rfl := dpS h1'
      first | obtain rfl := dpS h2 | obtain rfl := dpI h2 | obtain rfl := dpB h2
      first | obtain rfl := dpS h2' | obtain rfl := dpI h2' | obtain rfl := dpB h2')
    all_goals walk_at "r"
    · rename_i b1 b2
      exact .inr (.inr ⟨_, _, rfl, rfl, fin _ (by simpa [scalBefore] using hb)⟩)
    all_goals first
      | exact .inl ⟨_, _, rfl, rfl, fin _ (by simpa [scalBefore] using hb)⟩
      | exact .inr (.inl ⟨_, _, rfl, rfl, fin _ (by simpa [scalBefore, sLt] using hb)⟩)
      | (refine ⟨ty_RANKS T H, ?_⟩
         walk_at "r"
         first
         | (exfalso; simp [scalBefore, rank] at hb; done)
         | (refine ⟨_, rks, _, 0, rfl, rfl, t_RANKS T H, rfl, by decide, ?_⟩; refine ⟨ty_RANKS T H, ?_⟩; walk_at "r"; first
            | exact ⟨_, rks, _, 1, rfl, rfl, t_RANKS T H, rfl, by decide, (.inl ⟨_, _, rfl, rfl, fin _ (by decide)⟩)⟩
            | exact ⟨_, rks, _, 2, rfl, rfl, t_RANKS T H, rfl, by decide, (.inl ⟨_, _, rfl, rfl, fin _ (by decide)⟩)⟩
            | exact ⟨_, rks, _, 3, rfl, rfl, t_RANKS T H, rfl, by decide, (.inl ⟨_, _, rfl, rfl, fin _ (by decide)⟩)⟩)
         | (refine ⟨_, rks, _, 1, rfl, rfl, t_RANKS T H, rfl, by decide, ?_⟩; refine ⟨ty_RANKS T H, ?_⟩; walk_at "r"; first
            | exact ⟨_, rks, _, 2, rfl, rfl, t_RANKS T H, rfl, by decide, (.inl ⟨_, _, rfl, rfl, fin _ (by decide)⟩)⟩
            | exact ⟨_, rks, _, 3, rfl, rfl, t_RANKS T H, rfl, by decide, (.inl ⟨_, _, rfl, rfl, fin _ (by decide)⟩)⟩)
         | (refine ⟨_, rks, _, 2, rfl, rfl, t_RANKS T H, rfl, by decide, ?_⟩; refine ⟨ty_RANKS T H, ?_⟩; walk_at "r"
            exact ⟨_, rks, _, 3, rfl, rfl, t_RANKS T H, rfl, by decide, (.inl ⟨_, _, rfl, rfl, fin _ (by decide)⟩)⟩))
end
end FF
set_option Elab.async false
set_option linter.all false
set_option maxRecDepth 100000
set_option maxHeartbeats 4000000
namespace FF
open PySem PySem.Spec PyProof.Rows L2
local macro_rules | `(tactic| walk_at "r") => `(tactic| repeat (first
   | refine ⟨_, rfl, ?_⟩
   | refine ⟨_, _, rfl, rfl, ?_⟩
   | refine ⟨rfl, ?_⟩
   | refine rixT (by assumption) rfl ?_
   | refine rixL (by assumption) rfl ?_
   | refine ifT (by decide +kernel) ?_
   | refine ifF (by decide +kernel) ?_))
section
variable {P : Program} {w : World} {K : PySem.W.Frag} {mg : Str → Option Value} {base : Heap}
def scW : Scal → Str
  | .tr _ => "truth"
  | .nu _ => "number"
  | .tx _ => "text"
  | .en _ => "entity"
def scD : Scal → PyData
  | .tr b => .bool b
  | .nu i => .int i
  | .tx s => .str s
  | .en u => .str u
theorem scW_set (s : Scal) : (!decide (V.str (scW s) = V.str "set")) = true := by
  have h : scW s ≠ "set" := by cases s <;> (simp only [scW]; decide +kernel)
  simp [h]
theorem enc_scal (s : Scal) : encScal s = .tuple [.str (scW s), scD s] := by cases s <;> rfl
theorem dp_scal {H : Hp} {v : V} {s : Scal} (h : Dp K H v (encScal s)) : ∃ a y, v = .ref a ∧ SqT K H a [.str (scW s), y] ∧ Dp K H y (scD s) := by
  rw [enc_scal] at h
  obtain ⟨a, x, y, rfl, hq, h1, h2⟩ := dp2 h
  obtain rfl := dpS h1
  exact ⟨a, y, rfl, hq, h2⟩
theorem ok_is_value (T : Top w K mg) (h_is_scalar : O_is_scalar P w K mg base) (h_scalar_before : O_scalar_before P w K mg base) : O_is_value P w K mg base := by
  refine mk_ok (f_is_value T) sc_is_value rfl rfl (fun _ _ _ _ _ _ us hl => match us, hl with | [_], _ => rfl) (fun vs H Q E h => ?_) (fun f cdv A outer s H vs Q E hr h => ?_)
  · obtain ⟨v, x, rfl, _⟩ := h
    rfl
  · obtain ⟨v, x, rfl, hd, hg, k⟩ := h
    have sc := sc_is_value
    refine ⟨_, (pss_cons (ps_if (pt_cmpR op_ne (pe_ix ix_seq (pv 0) pe_int (fun _ _ => rfl)) pe_str (nomark _))
      (pss_one (ps_ret (pe_u h_is_scalar hr rfl (g_is_scalar T) (pa_cons (pv 0) pa_nil))))
      pss_nil)
      (pss_cons (ps_if (pt_cmpR op_gt (pe_callB call_len (by rfl) (n_len T) PySem.boot_len (pa_cons (pe_ix ix_seq (pv 0) pe_int (fun _ _ => rfl)) pa_nil)) (pe_gint (c_SET_MOST T)) (nomark _))
      (pss_one (ps_ret pe_bl))
      pss_nil)
      (pss_cons (ps_for PassesOwn.never rfl (pi_tup (pe_ix ix_seq (pv 0) pe_int (fun _ _ => rfl))) (pg_name (i := 1) sc.nd rfl (Or.inl rfl))
      (pss_one (ps_if (pt_not (pt_val (pe_u h_is_scalar hr rfl (g_is_scalar T) (pa_cons (pv 1) pa_nil))))
        (pss_one (ps_ret pe_bl))
        pss_nil)))
      (pss_cons (ps_for PassesOwn.never rfl (RZ.pi_zipA (by rfl) (n_zip T) (pa_cons (pe_ix ix_seq (pv 0) pe_int (fun _ _ => rfl)) (pa_cons (pe_slice sl_any (pe_ix ix_seq (pv 0) pe_int (fun _ _ => rfl)) (po_some pe_int) po_none) pa_nil))) (pg_tup rfl (pgs_cons (pg_name (i := 2) sc.nd rfl (Or.inl rfl)) (pgs_cons (pg_name (i := 3) sc.nd rfl (Or.inl rfl)) pgs_nil)))
      (pss_one (ps_if (pt_not (pt_val (pe_u h_scalar_before hr rfl (g_scalar_before T) (pa_cons (pv 2) (pa_cons (pv 3) pa_nil)))))
        (pss_one (ps_ret pe_bl))
        pss_nil)))
      (pss_one (ps_ret pe_bl)))))), ?_⟩
    have fin : ∀ (b : Bool) H', Same H H' → b = true → Q (.bl b) H' := fun b H' hS e => by rw [e]; exact k H' hS
    cases x with
    | sc s0 =>
      obtain ⟨a, y, rfl, hq, hy⟩ := dp_scal hd
      walk_at "r"
      refine ifT (scW_set s0) ?_
      exact ⟨_, rfl, _, s0, rfl, hd, hg, fun H' hS => fin _ H' hS rfl⟩
    | st l =>
      obtain ⟨a, x1, y, rfl, hq, h1, h2⟩ := dp2 hd
      obtain rfl := dpS h1
      obtain ⟨b, xs, rfl, hb, hx⟩ := dp_tup h2
      obtain ⟨hl, hsc, hbf⟩ := hg
      have hxl := enc_len hx
      walk_at "r"
      refine ⟨_, xs.length, rfl, lenT hb, ?_⟩
      walk_at "r"
      refine ifF (by rw [hxl]; simp; omega) ?_
      walk_at "r"
      refine ⟨⟨_, hb⟩, for_it walk_tup (fun i σ H1 => Same H H1 ∧ ∃ o1, σ = [some (.ref a), o1, none, none]) ⟨Same.refl _, _, rfl⟩ (fun _ _ H1 _ h => sqT_same h.1 hb) ?_ ?_⟩
      · rintro i z σ H1 H2 hi ⟨hS, o1, rfl⟩ ⟨rfl, hz⟩
        obtain ⟨s0, e0, hz⟩ := enc_at hx hz
        refine ⟨_, rfl, ⟨_, s0, rfl, dp_same hS hz, hsc s0 (mem_at e0), fun H' hS' => ⟨_, rfl, ifF rfl ⟨hS.trans hS', _, rfl⟩⟩⟩⟩
      · rintro σ H1 ⟨hS, o1, rfl⟩
        have hq1 := sqT_same hS hq
        have hb1 := sqT_same hS hb
        walk_at "r"
        refine slT hb1 fun p H2 hS2 hp => ⟨_, _, _, _, rfl, .inr ⟨sqT_same hS2 hb1, hp, ?_⟩⟩
        rw [show (some (1 : Int)) = some ((1 : Nat) : Int) from rfl, cutV_drop] at hp
        have hS02 := hS.trans hS2
        refine for_it (walk_zipT rfl) (fun i σ H3 => Same H2 H3 ∧ ∃ o2 o3, σ = [some (.ref a), o1, o2, o3]) ⟨Same.refl _, _, _, rfl⟩ (fun _ _ H1 _ h => ⟨sqT_same (hS02.trans h.1) hb, sqT_same h.1 hp⟩) ?_ ?_
        · rintro i z σ H3 H4 hi ⟨hS3, o2, o3, rfl⟩ ⟨U, z1, z2, rfl, hU, rfl, hz1, hz2⟩
          obtain ⟨s1, e1, hz1⟩ := enc_at hx hz1
          replace hz2 : (xs.drop 1)[i]? = some z2 := hz2
          rw [List.getElem?_drop] at hz2
          obtain ⟨s2, e2, hz2⟩ := enc_at hx hz2
          have hS04 := (hS02.trans hS3).trans (same_new (o := HO.tup [z1, z2]) hU)
          refine gp2 (SqT.of upd_same) ⟨_, rfl, _, rfl, ⟨_, _, s1, s2, rfl, dp_same hS04 hz1, dp_same hS04 hz2, hbf i s1 s2 e1 (by rw [Nat.add_comm]; exact e2), ⟨_, rfl, ifF rfl ⟨hS3.trans (same_new hU), _, _, rfl⟩⟩⟩⟩
        · rintro σ H3 ⟨hS3, o2, o3, rfl⟩
          exact fin _ _ (hS02.trans hS3) rfl
theorem ok_are_named (T : Top w K mg) (h_is_name : O_is_name P w K mg base) (h_is_rising : O_is_rising P w K mg base) (h_is_value : O_is_value P w K mg base) : O_are_named P w K mg base := by
  refine mk_ok (f_are_named T) sc_are_named rfl rfl (fun _ _ _ _ _ _ us hl => match us, hl with | [_, _], _ => rfl) (fun vs H Q E h => ?_) (fun f cdv A outer s H vs Q E hr h => ?_)
  · obtain ⟨v, m, l, rfl, _⟩ := h
    rfl
  · obtain ⟨v, m, l, rfl, hd, hg, hm, k⟩ := h
    have sc := sc_are_named
    refine ⟨_, (pss_cons (ps_if (pt_cmpR op_gt (pe_callB call_len (by rfl) (n_len T) PySem.boot_len (pa_cons (pv 0) pa_nil)) (pv 1) (nomark _))
      (pss_one (ps_ret pe_bl))
      pss_nil)
      (pss_cons (ps_for PassesOwn.never rfl (pi_tup (pv 0)) (pg_tup rfl (pgs_cons (pg_name (i := 2) sc.nd rfl (Or.inl rfl)) (pgs_cons (pg_name (i := 3) sc.nd rfl (Or.inl rfl)) pgs_nil)))
      (pss_one (ps_if (PW.pt (pw_or (pt_not (pt_val (pe_u h_is_name hr rfl (g_is_name T) (pa_cons (pv 2) pa_nil)))) (pw_or1 (pt_not (pt_val (pe_u h_is_value hr rfl (g_is_value T) (pa_cons (pv 3) pa_nil)))))))
        (pss_one (ps_ret pe_bl))
        pss_nil)))
      (pss_one (ps_ret (pe_u h_is_rising hr rfl (g_is_rising T) (pa_cons (pe_lc (own := [("name", 2), ("_", 4)]) rfl sc.nd (pi_tup (pv 0)) (blkOk_by (own := [("name", 2), ("_", 4)]) (N := N_are_named) (sc := defScope s_are_named) (by decide +kernel)) (fun _ _ _ _ _ => (pg_tupK K 2 rfl rfl (pgs_cons (pg_name (i := 2) sc.nd rfl (Or.inl rfl)) (pgs_cons (pg_name (i := 4) sc.nd rfl (Or.inl rfl)) pgs_nil)))) (fun _ _ _ _ _ => pts_nil) (fun _ _ _ _ _ => (pv 2))) pa_nil)))))), ?_⟩
    obtain ⟨a, xs, rfl, hq, hx⟩ := dp_tup hd
    have hxl := enc_len hx
    have pairs : ∀ {i : Nat} {z : V}, xs[i]? = some z → ∃ q ∈ l, l[i]? = some q ∧ ∃ b y, z = .ref b ∧ SqT K H b [.str q.1, y] ∧ Dp K H y (encVal q.2) := by
      intro i z hz
      obtain ⟨q, e, hz⟩ := enc_at hx hz
      obtain ⟨b, x, y, rfl, h1, h2, h3⟩ := dp2 hz
      obtain rfl := dpS h2
      exact ⟨q, mem_at e, e, b, y, rfl, h1, h3⟩
    refine ⟨_, rfl, _, xs.length, rfl, lenT hq, _, rfl, _, _, rfl, rfl, _, rfl, ifF (by rw [hxl]; have := hg.len; simp; omega) ?_⟩
    refine ⟨_, rfl, _, rfl, ⟨_, hq⟩, for_it walk_tup (fun i σ H1 => Same H H1 ∧ ∃ o1 o2, σ = [some (.ref a), some (.int m), o1, o2, none]) ⟨Same.refl _, _, _, rfl⟩ (fun _ _ H1 _ h => sqT_same h.1 hq) ?_ ?_⟩
    · rintro i z σ H1 H2 hi ⟨hS, o1, o2, rfl⟩ ⟨rfl, hz⟩
      obtain ⟨q, hqm, e, b, y, rfl, h1, h2⟩ := pairs hz
      refine gp2 (sqT_same hS h1) ⟨_, rfl, q.1, rfl, Nat.le_trans (name_len (hg.names q hqm)) (by decide), ⟨_, rfl, ?_⟩⟩
      refine ifF (by rw [hg.names q hqm]; rfl) ⟨_, rfl, _, q.2, rfl, dp_same hS h2, hg.vals q hqm, fun H' hS' => ⟨_, rfl, ifF rfl ⟨hS.trans hS', _, _, rfl⟩⟩⟩
    · rintro σ H1 ⟨hS, o1, o2, rfl⟩
      refine ⟨_, rfl, _, rfl, ⟨_, sqT_same hS hq⟩, fun D hD => lc_it walk_tup (fun i H2 => Same H1 H2 ∧ H2 D = some (.lst (((l.map (·.1)).take i).map V.str))) ⟨same_new hD, upd_same⟩ (fun _ _ _ h => sqT_same (hS.trans h.1) hq) ?_ ?_⟩
      · rintro i z H2 H3 hi ⟨hS2, hL⟩ ⟨rfl, hz⟩
        obtain ⟨q, hqm, e, b, y, rfl, h1, h2⟩ := pairs hz
        refine gp2 (sqT_same (hS.trans hS2) h1) ⟨rfl, tyes rfl ⟨_, rfl, _, hL, ?_, same_mut hS2 hD, ?_⟩⟩
        · rw [List.length_map, List.length_take]
          have := hg.len
          have : min i (l.map (·.1)).length < 100000 := by rw [List.length_map]; omega
          exact szlt this
        · rw [upd_same, List.take_add_one, List.getElem?_map, e]
          simp
      · rintro H2 ⟨hS2, hL⟩
        rw [List.take_of_length_le (by rw [hxl, List.length_map]; exact Nat.le_refl _)] at hL
        exact ⟨D, l.map (·.1), rfl, .inl (sqN hL), hg.rising, fun H' hS' => k H' ((hS.trans hS2).trans hS')⟩
theorem ok_value_named (T : Top w K mg) : O_value_named P w K mg base := by
  refine mk_ok (f_value_named T) sc_value_named rfl rfl (fun _ _ _ _ _ _ us hl => match us, hl with | [_, _], _ => rfl) (fun vs H Q E h => ?_) (fun f cdv A outer s H vs Q E hr h => ?_)
  · obtain ⟨v, n, l, rfl, _⟩ := h
    rfl
  · obtain ⟨v, n, l, rfl, hd, k⟩ := h
    have sc := sc_value_named
    refine ⟨_, (pss_cons (ps_for PassesOwn.never rfl (pi_tup (pv 0)) (pg_tup rfl (pgs_cons (pg_name (i := 2) sc.nd rfl (Or.inl rfl)) (pgs_cons (pg_name (i := 3) sc.nd rfl (Or.inl rfl)) pgs_nil)))
      (pss_one (ps_if (pt_cmpR op_eq (pv 2) (pv 1) (nomark _))
        (pss_one (ps_ret (pv 3)))
        pss_nil)))
      (pss_one (ps_ret pe_non))), ?_⟩
    obtain ⟨a, xs, rfl, hq, hx⟩ := dp_tup hd
    have hxl := enc_len hx
    refine ⟨_, rfl, _, rfl, ⟨_, hq⟩, for_it walk_tup (fun i σ H1 => H1 = H ∧ (∀ q ∈ l.take i, q.1 ≠ n) ∧ ∃ o1 o2, σ = [some (.ref a), some (.str n), o1, o2]) ⟨rfl, by simp, _, _, rfl⟩ (fun _ _ H1 _ h => by rw [h.1]; exact hq) ?_ ?_⟩
    · rintro i z σ H1 H2 hi ⟨rfl, hno, o1, o2, rfl⟩ ⟨rfl, hz⟩
      obtain ⟨q, e, hz⟩ := enc_at hx hz
      obtain ⟨b, x, y, rfl, h1, h2, h3⟩ := dp2 hz
      obtain rfl := dpS h2
      refine gp2 h1 ⟨_, rfl, _, rfl, rfl, _, rfl, ?_⟩
      refine ifB (fun h4 => ?_) (fun h4 => ?_)
      · have h5 : q.1 = n := by have := of_decide_eq_true h4; injection this
        refine ⟨_, rfl, k.1 q.2 ?_ _ h3⟩
        unfold valNamed
        have : l.find? (fun q => decide (q.1 = n)) = some q := find_at e (by simpa using h5) fun x hx => by simpa using hno x hx
        rw [this]
        rfl
      · have h5 : q.1 ≠ n := by have := of_decide_eq_false h4; intro z; exact this (by rw [z])
        refine ⟨rfl, fun q' hq' => ?_, _, _, rfl⟩
        rw [List.take_add_one, e] at hq'
        rcases List.mem_append.mp hq' with h | h
        · exact hno q' h
        · simp at h; rw [h]; exact h5
    · rintro σ H1 ⟨rfl, hno, o1, o2, rfl⟩
      refine k.2 ?_
      rw [List.take_of_length_le (by omega)] at hno
      unfold valNamed
      rw [List.find?_eq_none.mpr (fun q hq => by simpa using hno q hq)]
      rfl
theorem ok_context_value (T : Top w K mg) (h_value_named : O_value_named P w K mg base) : O_context_value P w K mg base := by
  refine mk_ok (f_context_value T) sc_context_value rfl rfl (fun _ _ _ _ _ _ us hl => match us, hl with | [_, _], _ => rfl) (fun vs H Q E h => ?_) (fun f cdv A outer s H vs Q E hr h => ?_)
  · obtain ⟨v, n, rq, rfl, _⟩ := h
    rfl
  · obtain ⟨v, n, rq, rfl, hd, k⟩ := h
    have sc := sc_context_value
    refine ⟨_, (pss_one (ps_ret (pe_u h_value_named hr rfl (g_value_named T) (pa_cons (pe_ix ix_seq (pv 0) pe_int (fun _ _ => rfl)) (pa_cons (pv 1) pa_nil))))), ?_⟩
    obtain ⟨a, x, y, z, u, rfl, hq, h1, h2, h3, h4⟩ := dp4 hd
    exact ⟨_, rfl, rixT hq rfl ⟨_, rfl, _, n, rq.ctx, rfl, h4, k⟩⟩
theorem ok_check_parents (T : Top w K mg) (h_check_uid : O_check_uid P w K mg base) (h_is_rising : O_is_rising P w K mg base) : O_check_parents P w K mg base := by
  refine mk_ok (f_check_parents T) sc_check_parents rfl rfl (fun _ _ _ _ _ _ us hl => match us, hl with | [_], _ => rfl) (fun vs H Q E h => ?_) (fun f cdv A outer s H vs Q E hr h => ?_)
  · obtain ⟨v, l, rfl, _⟩ := h
    rfl
  · obtain ⟨v, l, rfl, hd, hl, hR, hu, k⟩ := h
    have sc := sc_check_parents
    refine ⟨_, (pss_cons (ps_if (PW.pt (pw_or (pt_cmpR op_gt (pe_callB call_len (by rfl) (n_len T) PySem.boot_len (pa_cons (pv 0) pa_nil)) (pe_gint (c_PARENTS_MOST T)) (nomark _)) (pw_or1 (pt_not (pt_val (pe_u h_is_rising hr rfl (g_is_rising T) (pa_cons (pv 0) pa_nil)))))))
      (pss_one ps_never)
      pss_nil)
      (pss_one (ps_for PassesOwn.never rfl (pi_tup (pv 0)) (pg_name (i := 1) sc.nd rfl (Or.inl rfl))
      (pss_one (ps_expr (pe_u h_check_uid hr rfl (g_check_uid T) (pa_cons (pv 1) (pa_cons pe_str pa_nil)))))))), ?_⟩
    obtain ⟨a, xs, rfl, hq, hx⟩ := dp_tup hd
    obtain rfl := dpAll_strs hx
    refine ⟨_, rfl, _, (l.map V.str).length, rfl, lenT hq, _, _, rfl, rfl, _, rfl, ifF (by rw [List.length_map]; simp; omega) ?_⟩
    refine ⟨_, rfl, _, l, rfl, .inr hq, hR, fun H1 hS1 => ⟨_, rfl, ifF rfl ?_⟩⟩
    refine ⟨_, rfl, _, rfl, ⟨_, sqT_same hS1 hq⟩, for_it walk_tup (fun i σ H2 => Same H H2 ∧ ∃ o1, σ = [some (.ref a), o1]) ⟨hS1, _, rfl⟩ (fun _ _ H1 _ h => sqT_same h.1 hq) ?_ ?_⟩
    · rintro i z σ H2 H3 hi ⟨hS, o1, rfl⟩ ⟨rfl, hz⟩
      obtain ⟨u, e, rfl⟩ := map_at hz
      exact ⟨_, rfl, u, _, rfl, hu u (mem_at e), fun H' hS' => ⟨hS.trans hS', _, rfl⟩⟩
    · rintro σ H2 ⟨hS, o1, rfl⟩
      exact k H2 hS
theorem ok_check_entity (T : Top w K mg) (h_check_parents : O_check_parents P w K mg base) (h_are_named : O_are_named P w K mg base) (h_check_uid : O_check_uid1 P w K mg base) : O_check_entity P w K mg base := by
  refine mk_ok (f_check_entity T) sc_check_entity rfl rfl (fun _ _ _ _ _ _ us hl => match us, hl with | [_], _ => rfl) (fun vs H Q E h => ?_) (fun f cdv A outer s H vs Q E hr h => ?_)
  · obtain ⟨v, e, rfl, _⟩ := h
    rfl
  · obtain ⟨v, e, rfl, hd, hg, k⟩ := h
    have sc := sc_check_entity
    refine ⟨_, (pss_cons (ps_asg (pv 0) (pg_tup rfl (pgs_cons (pg_name (i := 1) sc.nd rfl (Or.inl rfl)) (pgs_cons (pg_name (i := 2) sc.nd rfl (Or.inl rfl)) (pgs_cons (pg_name (i := 3) sc.nd rfl (Or.inl rfl)) pgs_nil)))))
      (pss_cons (ps_expr (pe_u h_check_uid hr rfl (g_check_uid T) (pa_cons (pv 1) pa_nil)))
      (pss_cons (ps_if (pt_not (pt_val (pe_u h_are_named hr rfl (g_are_named T) (pa_cons (pv 2) (pa_cons (pe_gint (c_ATTRIBUTES_MOST T)) pa_nil)))))
      (pss_one ps_never)
      pss_nil)
      (pss_one (ps_expr (pe_u h_check_parents hr rfl (g_check_parents T) (pa_cons (pv 3) pa_nil))))))), ?_⟩
    obtain ⟨a, x, y, z, rfl, hq, h1, h2, h3⟩ := dp3 hd
    obtain rfl := dpS h1
    refine ⟨_, rfl, gp3 hq ⟨_, rfl, _, _, rfl, hg.uid, fun H1 hS1 => ?_⟩⟩
    refine ⟨_, rfl, _, 8, e.attrs, rfl, dp_same hS1 h2, hg.attrs, by decide, fun H2 hS2 => ⟨_, rfl, ifF rfl ?_⟩⟩
    exact ⟨_, rfl, _, e.par, rfl, dp_same (hS1.trans hS2) h3, hg.len, hg.rising, hg.par, fun H3 hS3 => k H3 ((hS1.trans hS2).trans hS3)⟩
end
end FF
set_option Elab.async false
set_option linter.all false
set_option maxRecDepth 100000
set_option maxHeartbeats 4000000
namespace FF
open PySem PySem.Spec PyProof.Rows L2
local macro_rules | `(tactic| walk_at "r") => `(tactic| repeat (first
   | refine ⟨_, rfl, ?_⟩
   | refine ⟨_, _, rfl, rfl, ?_⟩
   | refine ⟨rfl, ?_⟩
   | refine rixT (by assumption) rfl ?_
   | refine rixL (by assumption) rfl ?_
   | refine ifT (by decide +kernel) ?_
   | refine ifF (by decide +kernel) ?_))
section
variable {P : Program} {w : World} {K : PySem.W.Frag} {mg : Str → Option Value} {base : Heap}

theorem ok_Database_entities (T : Top w K mg) : O_Database_entities P w K mg base := by
  refine mk_ok (f_Database_entities T) sc_Database_entities rfl rfl (fun _ _ _ _ _ _ us hl => match us, hl with | [_], _ => rfl) (fun vs H Q E h => ?_) (fun f cdv A outer s H vs Q E hr h => ?_)
  · obtain ⟨a, es, rfl, _⟩ := h
    rfl
  · obtain ⟨a, es, rfl, hdb, k⟩ := h
    have sc := sc_Database_entities
    refine ⟨_, (pss_one (ps_ret (pe_listVals rfl (pe_fld (pv 0) rfl) (by rfl) (n_list T) (by decide +kernel)))), ?_⟩
    obtain ⟨⟨dx, t, kvs, h1, h2, h3, h4⟩, hok⟩ := hdb
    exact ⟨_, rfl, _, _, _, _, _, rfl, h1, cl_Database T, na_Database_table T, rfl, t, kvs, rfl, h2, fun D hD => k D _ (same_new hD) hD (dp_newL hD h4)⟩
theorem ok_Database_many (T : Top w K mg) : O_Database_many P w K mg base := by
  refine mk_ok (f_Database_many T) sc_Database_many rfl rfl (fun _ _ _ _ _ _ us hl => match us, hl with | [_], _ => rfl) (fun vs H Q E h => ?_) (fun f cdv A outer s H vs Q E hr h => ?_)
  · obtain ⟨a, es, rfl, _⟩ := h
    rfl
  · obtain ⟨a, es, rfl, hdb, k⟩ := h
    have sc := sc_Database_many
    refine ⟨_, (pss_one (ps_ret (pe_callB call_lenD (by rfl) (n_len T) PySem.boot_len (pa_cons (pe_fld (pv 0) rfl) pa_nil)))), ?_⟩
    obtain ⟨⟨dx, t, kvs, h1, h2, h3, h4⟩, hok⟩ := hdb
    have hl : kvs.length = es.length := by have := congrArg List.length h3; simpa using this
    refine ⟨_, rfl, _, _, _, _, _, rfl, h1, cl_Database T, na_Database_table T, rfl, t, kvs, rfl, h2, ?_⟩
    rw [hl]
    exact k
theorem ok_Database_attribute (T : Top w K mg) (h_value_named : O_value_named P w K mg base) : O_Database_attribute P w K mg base := by
  refine mk_ok (f_Database_attribute T) sc_Database_attribute rfl rfl (fun _ _ _ _ _ _ us hl => match us, hl with | [_, _, _], _ => rfl) (fun vs H Q E h => ?_) (fun f cdv A outer s H vs Q E hr h => ?_)
  · obtain ⟨a, es, u, n, rfl, _⟩ := h
    rfl
  · obtain ⟨a, es, u, n, rfl, hdb, k⟩ := h
    have sc := sc_Database_attribute
    have hu := hu_of hr
    refine ⟨_, (pss_cons (ps_if (pt_cmp (pc_dnotin hu (pv 1) (pe_fld (pv 0) rfl)) rfl)
      (pss_one (ps_ret pe_non))
      pss_nil)
      (pss_one (ps_ret (pe_u h_value_named hr rfl (g_value_named T) (pa_cons (pe_ix ix_seq (pe_dget hu (pe_fld (pv 0) rfl) (pv 1) (fun _ _ => rfl)) pe_int (fun _ _ => rfl)) (pa_cons (pv 2) pa_nil)))))), ?_⟩
    obtain ⟨⟨dx, t, kvs, h1, h2, h3, h4⟩, hok⟩ := hdb
    obtain ⟨q1, q2⟩ := tab_find (u := u) h3 h4
    unfold attrOf at k
    refine ⟨_, rfl, _, rfl, _, _, _, _, _, rfl, h1, cl_Database T, na_Database_table T, rfl, t, _, rfl, DGet.k (k := Sum.inr u) h2, _, rfl, ?_⟩
    cases hf : find es u with
    | none =>
      rw [q1 hf]
      rw [hf] at k
      exact ifT rfl (k.2 rfl)
    | some e =>
      rw [hf] at k
      obtain ⟨v, hv, hd⟩ := q2 e hf
      rw [hv]
      obtain ⟨b, x, y, z, rfl, g1, g2, g3, g4⟩ := dp3 hd
      refine ifF rfl ⟨_, rfl, _, _, _, _, _, rfl, h1, cl_Database T, na_Database_table T, rfl, _, rfl, t, _, rfl, (by rw [← hv]; exact DGet.k (k := Sum.inr u) h2), ?_⟩
      exact rixT g1 rfl ⟨_, rfl, _, n, e.attrs, rfl, g3, k⟩
theorem ok_Database_parents (T : Top w K mg) : O_Database_parents P w K mg base := by
  refine mk_ok (f_Database_parents T) sc_Database_parents rfl rfl (fun _ _ _ _ _ _ us hl => match us, hl with | [_, _], _ => rfl) (fun vs H Q E h => ?_) (fun f cdv A outer s H vs Q E hr h => ?_)
  · obtain ⟨a, es, u, rfl, _⟩ := h
    rfl
  · obtain ⟨a, es, u, rfl, hdb, k⟩ := h
    have sc := sc_Database_parents
    have hu := hu_of hr
    refine ⟨_, (pss_one (ps_ret (pe_ifExp (pt_cmp (pc_din hu (pv 1) (pe_fld (pv 0) rfl)) rfl) (pe_ix ix_seq (pe_dget hu (pe_fld (pv 0) rfl) (pv 1) (fun _ _ => rfl)) pe_int (fun _ _ => rfl)) (pe_tup pa_nil)))), ?_⟩
    obtain ⟨⟨dx, t, kvs, h1, h2, h3, h4⟩, hok⟩ := hdb
    obtain ⟨q1, q2⟩ := tab_find (u := u) h3 h4
    unfold parOf at k
    refine ⟨_, rfl, _, rfl, _, _, _, _, _, rfl, h1, cl_Database T, na_Database_table T, rfl, t, _, rfl, DGet.k (k := Sum.inr u) h2, _, rfl, ?_⟩
    cases hf : find es u with
    | none =>
      rw [q1 hf]
      rw [hf] at k
      exact ifF rfl ⟨Nat.zero_le _, fun p hp => k _ _ (same_new hp) (dp_new (ds := []) hp .nil)⟩
    | some e =>
      rw [hf] at k
      obtain ⟨v, hv, hd⟩ := q2 e hf
      rw [hv]
      obtain ⟨b, x, y, z, rfl, g1, g2, g3, g4⟩ := dp3 hd
      refine ifT rfl ⟨_, rfl, _, _, _, _, _, rfl, h1, cl_Database T, na_Database_table T, rfl, _, rfl, t, _, rfl, (by rw [← hv]; exact DGet.k (k := Sum.inr u) h2), ?_⟩
      exact rixT g1 rfl (k _ H (Same.refl _) g4)
end
end FF
set_option Elab.async false
set_option linter.all false
set_option maxRecDepth 100000
set_option maxHeartbeats 4000000
namespace FF
open PySem PySem.Spec PyProof.Rows L2
local macro_rules | `(tactic| walk_at "r") => `(tactic| repeat (first
   | refine ⟨_, rfl, ?_⟩
   | refine ⟨_, _, rfl, rfl, ?_⟩
   | refine ⟨rfl, ?_⟩
   | refine rixT (by assumption) rfl ?_
   | refine rixL (by assumption) rfl ?_
   | refine ifT (by decide +kernel) ?_
   | refine ifF (by decide +kernel) ?_))
section
variable {P : Program} {w : World} {K : PySem.W.Frag} {mg : Str → Option Value} {base : Heap}

theorem nodup_le {α : Type} [DecidableEq α] : ∀ {l m : List α}, l.Nodup → (∀ x ∈ l, x ∈ m) → l.length ≤ m.length
  | [], m, _, _ => Nat.zero_le _
  | a :: l, m, hn, hs => by
    have hn' := List.nodup_cons.mp hn
    have ha : a ∈ m := hs a (by simp)
    have h1 : l.length ≤ (m.erase a).length := nodup_le hn'.2 fun x hx => by
      have hne : x ≠ a := fun e => hn'.1 (e ▸ hx)
      exact (List.mem_erase_of_ne hne).mpr (hs x (by simp [hx]))
    have h2 := List.length_erase_of_mem ha
    have h3 : 0 < m.length := List.length_pos_of_mem ha
    rw [List.length_cons]
    omega
theorem db_same {H H' : Hp} {a : Addr} {es : List Ent} (e : Same H H') (h : DbAt K H a es) : DbAt K H' a es := by
  obtain ⟨⟨dx, t, kvs, h1, h2, h3, h4⟩, hok⟩ := h
  exact ⟨⟨dx, t, kvs, e _ _ h1, e _ _ h2, h3, dpAll_same e h4⟩, hok⟩
theorem ok_Database_ancestors (T : Top w K mg) (h_Database_parents : O_Database_parents P w K mg base) : O_Database_ancestors P w K mg base := by
  refine mk_ok (f_Database_ancestors T) sc_Database_ancestors rfl rfl (fun _ _ _ _ _ _ us hl => match us, hl with | [_, _], _ => rfl) (fun vs H Q E h => ?_) (fun f cdv A outer s H vs Q E hr h => ?_)
  · obtain ⟨a, es, u, rfl, _⟩ := h
    rfl
  · obtain ⟨a, es, u, rfl, hdb, k⟩ := h
    have sc := sc_Database_ancestors
    refine ⟨_, (pss_cons (ps_set (i := 2) sc.nd rfl (Or.inl rfl) (pe_lst (pa_cons (pv 1) pa_nil)))
      (pss_cons (ps_set (i := 3) sc.nd rfl (Or.inl rfl) pe_int)
      (pss_cons (ps_while PassesOwn.never (pt_cmpR L2.op_lt (pv 3) (pe_callB call_len (by rfl) (n_len T) PySem.boot_len (pa_cons (pv 2) pa_nil)) (nomark _))
      (pss_cons (ps_for PassesOwn.never rfl (pi_tup (pe_mU h_Database_parents hr (cl_Database T) (me_Database_parents T) (pv 0) (pa_cons (pe_ix ix_seq (pv 2) (pv 3) (fun _ _ => rfl)) pa_nil))) (pg_name (i := 4) sc.nd rfl (Or.inl rfl))
        (pss_one (ps_if (pt_cmpR op_notIn_seq (pv 4) (pv 2) rfl)
          (pss_one (ps_expr (pe_bm PySem.F.plainAttrs_list PySem.F.slot_list_append PySem.F.type_list_append mt_append (pv 2) (pa_cons (pv 4) pa_nil))))
          pss_nil)))
        (pss_one (ps_set (i := 3) sc.nd rfl (Or.inl rfl) (pe_op op_add (pv 3) pe_int)))))
      (pss_one (ps_ret (pe_callTy call_tuple_of (by rfl) (n_tuple T) (by decide +kernel) (pa_cons (pe_callB cr_sortedS (by rfl) (n_sorted T) (by decide +kernel) (pa_cons (pe_slice sl_any (pv 2) (po_some pe_int) po_none) pa_nil)) pa_nil))))))), ?_⟩
    obtain ⟨U, hU, hUp⟩ := hdb.ok.uni
    refine ⟨_, rfl, by show 1 ≤ sizeLine; decide, fun L hL => ?_⟩
    have hpar : ∀ x y, y ∈ parOf es x → y ∈ U := by
      intro x y hy
      unfold parOf at hy
      cases hf : find es x with
      | none => rw [hf] at hy; cases hy
      | some e => rw [hf] at hy; exact hUp e (find_mem hf).1 y hy
    have hbd : ∀ f : List Str, f.Nodup → (∀ x ∈ f, x = u ∨ x ∈ U) → f.length ≤ 51 := by
      intro f hn hs
      have : f.length ≤ (u :: U).length := nodup_le hn fun x hx => by
        rcases hs x hx with rfl | h
        · simp
        · simp [h]
      rw [List.length_cons] at this
      omega
    let Pv : Nat → List Str → Nat → L2.St → Hp → Prop := fun m found looked σ H1 => m = 60 - looked ∧ (∃ o, σ = [some (.ref a), some (.str u), some (.ref L), some (.int (looked : Nat)), o]) ∧ Same H H1 ∧ H1 L = some (.lst (found.map V.str)) ∧
      bfs (parOf es) (60 - looked) found looked = bfs (parOf es) 60 [u] 0 ∧ found.Nodup ∧ (∀ x ∈ found, x = u ∨ x ∈ U) ∧ looked ≤ found.length
    refine ⟨fun m σ H1 => ∃ found looked, Pv m found looked σ H1, ⟨60, [u], 0, rfl, ⟨_, rfl⟩, same_new hL, upd_same, rfl, by simp, by simp, Nat.zero_le _⟩, ?_⟩
    rintro m σ H1 ⟨found, looked, rfl, ⟨o, rfl⟩, hS, hL1, hb, hn, hm, hlk⟩
    have hfl := hbd found hn hm
    refine ⟨_, rfl, _, rfl, _, _, rfl, lenL (sqN hL1), _, _, rfl, rfl, _, rfl, ?_⟩
    refine ifB (fun h1 => ?_) (fun h1 => ?_)
    · have hlt : looked < found.length := by have := of_decide_eq_true h1; simpa using this
      obtain ⟨n, hn60⟩ : ∃ n, 60 - looked = n + 1 := ⟨60 - looked - 1, by omega⟩
      have hx : found[looked]? = some found[looked] := List.getElem?_eq_getElem hlt
      refine ⟨fun σ' H' => ∃ found', Pv n found' (looked + 1) σ' H', fun σ' H' h => ⟨n, by omega, let ⟨f', h'⟩ := h; ⟨f', looked + 1, h'⟩⟩, ?_⟩
      obtain ⟨⟨dx, t, kvs, g1, g2, g3, g4⟩, hok⟩ := hdb
      have hdb : DbAt K H a es := ⟨⟨dx, t, kvs, g1, g2, g3, g4⟩, hok⟩
      refine ⟨_, rfl, a, dx, _, rfl, hS _ _ g1, rfl, _, rfl, _, rfl, rixL (sqN hL1) (atI_nat (j := looked) (by rw [List.getElem?_map, hx]; rfl)) ?_⟩
      refine ⟨a, es, found[looked], rfl, db_same hS hdb, fun v H2 hS2 hv => ?_⟩
      obtain ⟨p, ps, rfl, hp, hps⟩ := dp_tup hv
      obtain rfl := dpAll_strs hps
      have hL2 := hS2 _ _ hL1
      refine ⟨p, rfl, ⟨_, hp⟩, for_it walk_tup (fun i σ H3 => (∃ o, σ = [some (.ref a), some (.str u), some (.ref L), some (.int (looked : Nat)), o]) ∧ Same H H3 ∧ But L H2 H3 ∧ H3 L = some (.lst ((joinL found ((parOf es found[looked]).take i)).map V.str)))
        ⟨⟨_, rfl⟩, hS.trans hS2, But.refl _ _, hL2⟩ (fun _ _ H3 _ h => sqT_tps (h.2.2.1.tps hL2) hp) ?_ ?_⟩
      · rintro i z σ H3 H4 hi ⟨⟨o, rfl⟩, hS3, hB3, hL3⟩ ⟨rfl, hz⟩
        obtain ⟨y, hy, rfl⟩ := map_at hz
        have hyU : y ∈ U := hpar _ _ (mem_at hy)
        have hnd : (joinL found ((parOf es found[looked]).take i)).Nodup := joinL_nodup _ _ hn
        have hmm : ∀ x ∈ joinL found ((parOf es found[looked]).take i), x = u ∨ x ∈ U := fun x hx => by
          rcases mem_joinL.mp hx with h | h
          · exact hm x h
          · exact .inr (hpar _ _ (List.mem_of_mem_take h))
        have hjl := hbd _ hnd hmm
        have hstep : joinL found ((parOf es found[looked]).take (i + 1)) = if y ∈ joinL found ((parOf es found[looked]).take i) then joinL found ((parOf es found[looked]).take i) else joinL found ((parOf es found[looked]).take i) ++ [y] := by
          rw [List.take_add_one, hy]
          unfold joinL
          rw [List.foldl_append]
          rfl
        refine ⟨_, rfl, _, rfl, L, _, rfl, .inl (sqN hL3), rfl, flat_strs _, _, rfl, ?_⟩
        rw [inV_strs]
        refine ifB (fun h4 => ?_) (fun h4 => ?_)
        · have h5 : y ∉ joinL found ((parOf es found[looked]).take i) := by simpa using h4
          refine ⟨_, rfl, .inl ⟨rfl, _, sqN hL3⟩, _, rfl, L, _, _, rfl, rfl, hL3, by rw [List.length_map]; exact szlt (by omega), ⟨_, rfl⟩, same_mut hS3 hL, hB3.put, ?_⟩
          rw [upd_same, hstep, if_neg h5, List.map_append]
          rfl
        · have h5 : y ∈ joinL found ((parOf es found[looked]).take i) := by simpa using h4
          refine ⟨⟨_, rfl⟩, hS3, hB3, ?_⟩
          rw [hL3, hstep, if_pos h5]
      · rintro σ H3 ⟨⟨o, rfl⟩, hS3, hB3, hL3⟩
        rw [List.take_of_length_le (by simp)] at hL3
        refine ⟨_, rfl, _, _, rfl, rfl, joinL found (parOf es found[looked]), by omega, ⟨_, rfl⟩, hS3, hL3, ?_, joinL_nodup _ _ hn, fun x hx => ?_, ?_⟩
        · rw [← hb, hn60, show 60 - (looked + 1) = n by omega]
          show _ = bfs (parOf es) (n + 1) found looked
          rw [bfs, hx]
        · rcases mem_joinL.mp hx with h | h
          · exact hm x h
          · exact .inr (hpar _ _ h)
        · have := (joinL_pre (parOf es found[looked]) found).length_le
          omega
    · have hge : found.length ≤ looked := by have := of_decide_eq_false h1; simp at this; omega
      have hbe : found = bfs (parOf es) 60 [u] 0 := by
        rw [← hb]
        have hnone : found[looked]? = none := List.getElem?_eq_none hge
        cases q : 60 - looked with
        | zero => rfl
        | succ n => rw [bfs, hnone]
      refine ⟨_, rfl, _, rfl, slL (sqN hL1) fun p H2 hS2 hp0 hp => ?_⟩
      rw [show (some (1 : Int)) = some ((1 : Nat) : Int) from rfl, cutV_drop, ← List.map_drop] at hp
      refine ⟨p, found.drop 1, rfl, sqN hp, by rw [List.length_drop]; omega, fun ys p2 hperm hsort hp2 => ?_⟩
      have := sort_unique hperm hsort
      subst this
      refine ⟨p2, _, rfl, .inl ⟨sqN upd_same, fun l hl => k _ _ (((hS.trans hS2).trans (same_new hp2)).trans (same_new hl)) ?_⟩⟩
      unfold anc
      rw [← hbe]
      exact dp_new hl (dpAll_ofStrs _)
theorem ok_Database_tell (T : Top w K mg) (h_Database_ancestors : O_Database_ancestors P w K mg base) (h_Database_attribute : O_Database_attribute P w K mg base) : O_Database_tell P w K mg base := by
  refine mk_ok (f_Database_tell T) sc_Database_tell rfl rfl (fun _ _ _ _ _ _ us hl => match us, hl with | [_, _], _ => rfl) (fun vs H Q E h => ?_) (fun f cdv A outer s H vs Q E hr h => ?_)
  · obtain ⟨a, es, v, r, rfl, _⟩ := h
    rfl
  · obtain ⟨a, es, v, r, rfl, hdb, hd, k⟩ := h
    have sc := sc_Database_tell
    have hu := hu_of hr
    refine ⟨_, (pss_cons (ps_if (pt_cmpR op_eq (pe_ix ix_seq (pv 1) pe_int (fun _ _ => rfl)) pe_str (nomark _))
      (pss_one (ps_ret (pe_tup (pa_cons pe_str (pa_cons (pe_mU h_Database_ancestors hr (cl_Database T) (me_Database_ancestors T) (pv 0) (pa_cons (pe_ix ix_seq (pv 1) pe_int (fun _ _ => rfl)) pa_nil)) pa_nil)))))
      pss_nil)
      (pss_cons (ps_if (pt_cmp (pc_dnotin hu (pe_ix ix_seq (pv 1) pe_int (fun _ _ => rfl)) (pe_fld (pv 0) rfl)) rfl)
      (pss_one (ps_ret (pe_tup (pa_cons pe_str pa_nil))))
      pss_nil)
      (pss_cons (ps_set (i := 2) sc.nd rfl (Or.inl rfl) (pe_mU h_Database_attribute hr (cl_Database T) (me_Database_attribute T) (pv 0) (pa_cons (pe_ix ix_seq (pv 1) pe_int (fun _ _ => rfl)) (pa_cons (pe_ix ix_seq (pv 1) pe_int (fun _ _ => rfl)) pa_nil))))
      (pss_one (ps_ret (pe_ifExp (pt_cmpR op_isN (pv 2) pe_non (nomark _)) (pe_tup (pa_cons pe_str pa_nil)) (pe_tup (pa_cons pe_str (pa_cons (pv 2) pa_nil))))))))), ?_⟩
    obtain ⟨⟨dx, t, kvs, h1, h2, h3, h4⟩, hok⟩ := hdb
    have hdb : DbAt K H a es := ⟨⟨dx, t, kvs, h1, h2, h3, h4⟩, hok⟩
    cases r with
    | anc u =>
      obtain ⟨b, x, y, rfl, hq, g1, g2⟩ := dp2 hd
      obtain rfl := dpS g1
      obtain rfl := dpS g2
      walk_at "r"
      refine ⟨a, dx, _, rfl, h1, rfl, ?_⟩
      walk_at "r"
      refine ⟨a, es, u, rfl, hdb, fun v H' hS hv => ⟨by show 2 ≤ sizeLine; decide, fun p hp => k _ _ (hS.trans (same_new hp)) ?_⟩⟩
      exact dp_new hp (.cons (.str _) (.cons hv .nil))
    | attr u n =>
      obtain ⟨b, x, y, z, rfl, hq, g1, g2, g3⟩ := dp3 hd
      obtain rfl := dpS g1
      obtain rfl := dpS g2
      obtain rfl := dpS g3
      walk_at "r"
      refine ⟨_, _, _, _, _, rfl, h1, cl_Database T, na_Database_table T, rfl, t, _, rfl, DGet.k (k := Sum.inr u) h2, _, rfl, ?_⟩
      obtain ⟨q1, q2⟩ := tab_find (u := u) h3 h4
      cases hf : find es u with
      | none =>
        have e : tell es (.attr u n) = .gone := by simp [tell, hf]
        rw [q1 hf]
        refine ifT rfl ⟨by show 1 ≤ sizeLine; decide, fun p hp => k _ _ (same_new hp) ?_⟩
        rw [e]
        exact dp_new hp (.cons (.str _) .nil)
      | some en =>
        obtain ⟨v, hv, hd⟩ := q2 en hf
        rw [hv]
        refine ifF rfl ⟨_, rfl, a, dx, _, rfl, h1, rfl, ?_⟩
        walk_at "r"
        refine ⟨a, es, u, n, rfl, hdb, ?_⟩
        have e0 : attrOf es u n = valNamed en.attrs n := by simp [attrOf, hf]
        refine ⟨fun x hx v hv => ?_, fun hx => ?_⟩
        · have e : tell es (.attr u n) = .value x := by rw [e0] at hx; simp [tell, hf, hx]
          obtain ⟨b', rfl⟩ : ∃ b', v = V.ref b' := by
            cases x with
            | sc s0 => obtain ⟨b', y, rfl, _⟩ := dp_scal hv; exact ⟨b', rfl⟩
            | st l => obtain ⟨b', x, y, rfl, _⟩ := dp2 hv; exact ⟨b', rfl⟩
          refine ⟨_, rfl, rfl, _, rfl, ifF (by simp) ⟨_, rfl, by show 2 ≤ sizeLine; decide, fun p hp => k _ _ (same_new hp) ?_⟩⟩
          rw [e]
          exact dp_new hp (.cons (.str _) (.cons hv .nil))
        · have e : tell es (.attr u n) = .none := by rw [e0] at hx; simp [tell, hf, hx]
          refine ⟨_, rfl, rfl, _, rfl, ifT (by simp) ⟨by show 1 ≤ sizeLine; decide, fun p hp => k _ _ (same_new hp) ?_⟩⟩
          rw [e]
          exact dp_new hp (.cons (.str _) .nil)
end
end FF
set_option Elab.async false
set_option linter.all false
set_option maxRecDepth 100000
set_option maxHeartbeats 4000000
namespace FF
open PySem PySem.Spec PyProof.Rows L2
local macro_rules | `(tactic| walk_at "r") => `(tactic| repeat (first
   | refine ⟨_, rfl, ?_⟩
   | refine ⟨_, _, rfl, rfl, ?_⟩
   | refine ⟨rfl, ?_⟩
   | refine rixT (by assumption) rfl ?_
   | refine rixL (by assumption) rfl ?_
   | refine ifT (by decide +kernel) ?_
   | refine ifF (by decide +kernel) ?_))
section
variable {P : Program} {w : World} {K : PySem.W.Frag} {mg : Str → Option Value} {base : Heap}

theorem dpAll_map {α : Type} {H : Hp} {f : α → V} {g : α → PyData} : ∀ {l : List α}, (∀ x ∈ l, Dp K H (f x) (g x)) → DpAll K H (l.map f) (l.map g)
  | [], _ => .nil
  | x :: l, h => .cons (h x (by simp)) (dpAll_map fun y hy => h y (by simp [hy]))
theorem DbOk.perm {es es' : List Ent} (hp : es'.Perm es) (h : DbOk es) : DbOk es' where
  nodup := (hp.map _).nodup_iff.mpr h.nodup
  len := by rw [hp.length_eq]; exact h.len
  good := fun e he => h.good e (hp.mem_iff.mp he)
  uni := by
    obtain ⟨U, h1, h2⟩ := h.uni
    exact ⟨U, h1, fun e he => h2 e (hp.mem_iff.mp he)⟩
def entOf (es : List Ent) (u : Str) : Ent := (find es u).getD ⟨u, [], []⟩
theorem entOf_uid (es : List Ent) (u : Str) : (entOf es u).uid = u := by
  unfold entOf
  cases h : find es u with
  | none => rfl
  | some e => exact (find_mem h).2
theorem entOf_perm {es : List Ent} {ys : List Str} (hn : (es.map (·.uid)).Nodup) (hp : ys.Perm (es.map (·.uid))) : (ys.map (entOf es)).Perm es := by
  have h1 := hp.map (entOf es)
  rw [List.map_map] at h1
  have h2 : es.map (entOf es ∘ (·.uid)) = es := by
    have : es.map (entOf es ∘ (·.uid)) = es.map id := List.map_congr_left fun e he => by
      show entOf es e.uid = e
      unfold entOf
      rw [find_self hn he]
      rfl
    rw [this, List.map_id]
  rw [h2] at h1
  exact h1
theorem ok_Database_init (T : Top w K mg) (h_check_entity : O_check_entity P w K mg base) : O_Database_init P w K mg base := by
  refine mk_ok (f_Database___init__ T) sc_Database___init__ rfl rfl (fun _ _ _ _ _ _ us hl => match us, hl with | [_, _], _ => rfl) (fun vs H Q E h => ?_) (fun f cdv A outer s H vs Q E hr h => ?_)
  · obtain ⟨p, dx, v, es, rfl, _⟩ := h
    rfl
  · obtain ⟨p, dx, v, es, rfl, hp, hd, hok, k⟩ := h
    have sc := sc_Database___init__
    have hu := hu_of hr
    refine ⟨_, (pss_cons (ps_if (pt_cmpR op_gt (pe_callB call_len (by rfl) (n_len T) PySem.boot_len (pa_cons (pv 1) pa_nil)) (pe_gint (c_ENTITIES_MOST T)) (nomark _))
      (pss_one ps_never)
      pss_nil)
      (pss_cons (ps_set (i := 2) sc.nd rfl (Or.inr rfl) pe_dnewK)
      (pss_cons (ps_for PassesOwn.never rfl (pi_list (pv 1)) (pg_name (i := 3) sc.nd rfl (Or.inl rfl))
      (pss_cons (ps_try_thru0 (pss_one (ps_expr (pe_u h_check_entity hr rfl (g_check_entity T) (pa_cons (pv 3) pa_nil)))))
        (pss_cons (ps_if (pt_cmp (pc_din hu (pe_ix ix_seq (pv 3) pe_int (fun _ _ => rfl)) (pv 2)) rfl)
        (pss_one ps_never)
        pss_nil)
        (pss_one (ps_dput hu (pv 2) (pe_ix ix_seq (pv 3) pe_int (fun _ _ => rfl)) (pe_tup (pa_cons (pe_ix ix_seq (pv 3) pe_int (fun _ _ => rfl)) (pa_cons (pe_callTy call_tuple_of (by rfl) (n_tuple T) (by decide +kernel) (pa_cons (pe_ix ix_seq (pv 3) pe_int (fun _ _ => rfl)) pa_nil)) (pa_cons (pe_callTy call_tuple_of (by rfl) (n_tuple T) (by decide +kernel) (pa_cons (pe_ix ix_seq (pv 3) pe_int (fun _ _ => rfl)) pa_nil)) pa_nil)))) rfl)))))
      (pss_one (ps_fld (pv 0) (pe_dc (own := [("uid", 4)]) rfl sc.nd (pi_list (pe_callB (call_sortedD rfl) (by rfl) (n_sorted T) (by decide +kernel) (pa_cons (pv 2) pa_nil))) (blkOk_by (own := [("uid", 4)]) (N := N_Database___init__) (sc := defScope s_Database___init__) (by decide +kernel)) (fun _ _ _ _ _ => (pg_name (i := 4) sc.nd rfl (Or.inl rfl))) (fun _ _ _ _ _ => pts_nil) (fun _ _ _ _ _ => (pv 4)) (fun _ _ _ _ _ => (pe_dget hu (pv 2) (pv 4) (fun _ _ => rfl)))) rfl))))), ?_⟩
    obtain ⟨a, xs, rfl, hq, hx⟩ := dp_lst hd
    have hxl := enc_len hx
    have hlen := hok.len
    refine ⟨_, rfl, _, xs.length, rfl, lenL hq, _, _, rfl, rfl, _, rfl, ifF (by rw [hxl]; simp; omega) ?_⟩
    refine fun t ht => ⟨_, rfl, a, rfl, ⟨_, sqL_same (same_new ht) hq⟩, for_it walk_list (fun i σ H2 => Same H H2 ∧ (∃ o3 o4, σ = [some (.ref p), some (.ref a), some (.ref t), o3, o4]) ∧ ∃ kvs, H2 t = some (.dK kvs) ∧ kvs.map (·.1) = (es.take i).map (fun e => (Sum.inr e.uid : Key)) ∧ DpAll K H2 (kvs.map (·.2)) ((es.take i).map encEnt))
      ⟨same_new ht, ⟨_, _, rfl⟩, [], upd_same, rfl, .nil⟩ (fun _ _ H1 _ h => sqL_same h.1 hq) ?_ ?_⟩
    · rintro i z σ H2 H3 hi ⟨hS, ⟨o3, o4, rfl⟩, kvs, hkt, hkeys, hvals⟩ ⟨rfl, hz⟩
      obtain ⟨e, he, hz⟩ := enc_at hx hz
      refine ⟨_, rfl, _, e, rfl, dp_same hS hz, hok.good e (mem_at he), fun H4 hS4 => ?_⟩
      obtain ⟨b, x, y, y2, rfl, g1, g2, g3, g4⟩ := dp3 (dp_same (hS.trans hS4) hz)
      obtain rfl := dpS g2
      obtain ⟨b3, x3, rfl, q3, r3⟩ := dp_tup g3
      obtain ⟨b4, x4, rfl, q4, r4⟩ := dp_tup g4
      have hkt4 := hS4 _ _ hkt
      have hlt : i < es.length := by rw [← hxl]; exact hi
      have hnone : valV kvs (Sum.inr e.uid) = none := by
        refine (tab_find hkeys hvals).1 ?_
        rw [find_none]
        intro e' he' heq
        obtain ⟨j, hj, hje⟩ := List.getElem_of_mem he'
        rw [List.length_take] at hj
        have hjl : j < es.length := by omega
        rw [List.getElem_take] at hje
        have h1 := List.pairwise_iff_getElem.mp hok.nodup j i (by simpa using hjl) (by simpa using hlt) (by omega)
        rw [List.getElem_map, List.getElem_map, hje] at h1
        have h2 : es[i] = e := by
          rw [List.getElem?_eq_getElem hlt] at he
          exact Option.some.inj he
        rw [h2] at h1
        exact h1 heq
      refine ⟨_, rfl, rixT g1 rfl ⟨_, rfl, t, _, rfl, DGet.k (k := Sum.inr e.uid) hkt4, _, rfl, ?_⟩⟩
      rw [hnone]
      refine ifF rfl ⟨_, rfl, rixT g1 rfl ⟨_, rfl, rixT g1 rfl ⟨_, _, rfl, .inr ⟨q3, ⟨_, rfl, rixT g1 rfl ⟨_, _, rfl, .inr ⟨q4, by show 3 ≤ sizeLine; decide, fun U hU => ?_⟩⟩⟩⟩⟩⟩⟩
      have hS5 := same_new (o := HO.tup [V.str e.uid, V.ref b3, V.ref b4]) hU
      have hkt5 := hS5 _ _ hkt4
      refine ⟨_, rfl, _, rfl, rixT (sqT_same hS5 g1) rfl ⟨t, _, rfl, .inl ⟨kvs, Sum.inr e.uid, hkt5, rfl, ?_, rfl⟩, ?_⟩⟩
      · have : kvs.length = (es.take i).length := by have := congrArg List.length hkeys; simpa using this
        rw [this, List.length_take]
        exact szlt (by omega)
      · rw [putK_new (.ref U) hnone]
        have hS6 : Same H (upd (upd H4 U (.tup [.str e.uid, .ref b3, .ref b4])) t (.dK (kvs ++ [(Sum.inr e.uid, .ref U)]))) := same_mut ((hS.trans hS4).trans hS5) ht
        refine ⟨hS6, ⟨_, _, rfl⟩, _, upd_same, ?_, ?_⟩
        · rw [List.map_append, hkeys, List.take_add_one, he]
          simp
        · rw [List.map_append, List.take_add_one, he]
          simp only [Option.toList, List.map_append, List.map_cons, List.map_nil]
          have htps : Tps (upd H4 U (.tup [.str e.uid, .ref b3, .ref b4])) (upd (upd H4 U (.tup [.str e.uid, .ref b3, .ref b4])) t (.dK (kvs ++ [(Sum.inr e.uid, .ref U)]))) := fun c ys hc => by
            have hne : c ≠ t := by
              rintro rfl
              rcases hc with hc | ⟨o, hc⟩
              · rw [hkt5] at hc; cases hc
              · rw [hkt5] at hc; cases hc
            rcases hc with hc | ⟨o, hc⟩
            · exact .inl (by rw [upd_ne hne]; exact hc)
            · exact .inr ⟨o, by rw [upd_ne hne]; exact hc⟩
          refine dpAll_app (dpAll_tps htps (noLs_ents _) (dpAll_same (hS4.trans hS5) hvals)) (.cons (dp_tps htps (noL_ent _) ?_) .nil)
          exact dp_new hU (.cons (.str _) (.cons g3 (.cons g4 .nil)))
    · rintro σ H2 ⟨hS, ⟨o3, o4, rfl⟩, kvs, hkt, hkeys, hvals⟩
      rw [List.take_of_length_le (by omega)] at hkeys hvals
      refine ⟨_, rfl, t, kvs, es.map (·.uid), rfl, .inl hkt, by rw [hkeys, List.map_map]; rfl, by rw [List.length_map]; omega, fun ys p2 hperm hsort hp2 => ?_⟩
      have hS3 : Same H2 (upd H2 p2 (.lst (ys.map V.str))) := same_new hp2
      have htab : ∀ u ∈ ys, ∃ v, valV kvs (Sum.inr u) = some v ∧ Dp K H2 v (encEnt (entOf es u)) := fun u hu => by
        have hm := hperm.mem_iff.mp hu
        obtain ⟨e, he, rfl⟩ := List.mem_map.mp hm
        have hf := find_self hok.nodup he
        have : entOf es e.uid = e := by unfold entOf; rw [hf]; rfl
        rw [this]
        exact (tab_find (u := e.uid) hkeys hvals).2 e hf
      refine ⟨p2, rfl, ⟨_, sqN upd_same⟩, fun D hD => dc_it walk_list (fun i H4 => Same (upd H2 p2 (.lst (ys.map V.str))) H4 ∧ H4 D = some (.dK ((ys.take i).map fun u => ((Sum.inr u : Key), (valV kvs (Sum.inr u)).getD .non)))) ⟨same_new hD, upd_same⟩ (fun _ _ _ h => sqL_same h.1 (sqN upd_same)) ?_ ?_⟩
      · rintro i z H4 H5 hi ⟨hS4, hD4⟩ ⟨rfl, hz⟩
        obtain ⟨u, hu', rfl⟩ := map_at hz
        obtain ⟨v, hv, hdv⟩ := htab u (mem_at hu')
        have hkt4 : H5 t = some (.dK kvs) := hS4 _ _ (hS3 _ _ hkt)
        refine ⟨rfl, tyes rfl ⟨_, rfl, _, rfl, _, rfl, t, v, rfl, by rw [← hv]; exact DGet.k (k := Sum.inr u) hkt4, _, Sum.inr u, rfl, hD4, ?_, same_mut hS4 hD, ?_⟩⟩
        · rw [List.length_map, List.length_take]
          have h1 := hperm.length_eq
          rw [List.length_map] at h1
          exact szlt (by omega)
        · rw [upd_same]
          have hnew : valV ((ys.take i).map fun u => ((Sum.inr u : Key), (valV kvs (Sum.inr u)).getD .non)) (Sum.inr u) = none := by
            have hnd : ys.Nodup := hperm.nodup_iff.mpr hok.nodup
            unfold valV
            rw [List.find?_eq_none.mpr]
            · rfl
            · intro q hq
              obtain ⟨u', hu'', rfl⟩ := List.mem_map.mp hq
              obtain ⟨j, hj, hje⟩ := List.getElem_of_mem hu''
              rw [List.length_take] at hj
              have hil : i < ys.length := by
                rcases Nat.lt_or_ge i ys.length with h | h
                · exact h
                · rw [List.getElem?_eq_none h] at hu'; cases hu'
              rw [List.getElem_take] at hje
              have h1 := List.pairwise_iff_getElem.mp hnd j i (by omega) hil (by omega)
              rw [hje] at h1
              have h2 : ys[i] = u := by
                rw [List.getElem?_eq_getElem hil] at hu'
                exact Option.some.inj hu'
              rw [h2] at h1
              simp only [decide_eq_true_eq]
              intro h3
              injection h3 with h3
              exact h1 h3
          rw [putK_new _ hnew, List.take_add_one, hu', List.map_append]
          simp [hv]
      · rintro H4 ⟨hS4, hD4⟩
        have hS5 := hS3.trans hS4
        have hp4 : H4 p = some (.ins (CD K) dx []) := hS5 _ _ (hS _ _ hp)
        rw [List.take_of_length_le (by rw [List.length_map]; exact Nat.le_refl _)] at hD4
        refine ⟨_, rfl, p, _, dx, [], rfl, hp4, cl_Database T, na_Database_table T, by decide, ?_⟩
        refine k _ (ys.map (entOf es)) (But.put (But.of (hS.trans hS5))) (entOf_perm hok.nodup hperm) ⟨⟨dx, D, ys.map fun u => ((Sum.inr u : Key), (valV kvs (Sum.inr u)).getD .non), upd_same, ?_, ?_, ?_⟩, DbOk.perm (entOf_perm hok.nodup hperm) hok⟩
        · rw [upd_ne (by rintro rfl; rw [hp4] at hD4; cases hD4)]
          exact hD4
        · rw [List.map_map, List.map_map]
          exact List.map_congr_left fun u _ => by show (Sum.inr u : Key) = Sum.inr (entOf es u).uid; rw [entOf_uid]
        · rw [List.map_map, List.map_map]
          refine dpAll_map fun u hu' => ?_
          obtain ⟨v, hv, hdv⟩ := htab u hu'
          have htps : Tps H4 (upd H4 p (.ins (CD K) dx [(("_table" : Str), .ref D)])) := fun c ys hc => by
            have hne : c ≠ p := by
              rintro rfl
              rcases hc with hc | ⟨o, hc⟩
              · rw [hp4] at hc; cases hc
              · rw [hp4] at hc; cases hc
            rcases hc with hc | ⟨o, hc⟩
            · exact .inl (by rw [upd_ne hne]; exact hc)
            · exact .inr ⟨o, by rw [upd_ne hne]; exact hc⟩
          show Dp K _ ((valV kvs (Sum.inr u)).getD .non) (encEnt (entOf es u))
          rw [hv]
          exact dp_tps htps (noL_ent _) (dp_same hS5 hdv)
end
end FF
set_option Elab.async false
set_option linter.all false
set_option maxRecDepth 100000
set_option maxHeartbeats 4000000
namespace FF
open PySem PySem.Spec PyProof.Rows L2
local macro_rules | `(tactic| walk_at "r") => `(tactic| repeat (first
   | refine ⟨_, rfl, ?_⟩
   | refine ⟨_, _, rfl, rfl, ?_⟩
   | refine ⟨rfl, ?_⟩
   | refine rixT (by assumption) rfl ?_
   | refine rixL (by assumption) rfl ?_
   | refine ifT (by decide +kernel) ?_
   | refine ifF (by decide +kernel) ?_))
section
variable {P : Program} {w : World} {K : PySem.W.Frag} {mg : Str → Option Value} {base : Heap}

theorem node_hd {H : Hp} {v : V} {nd : Node} (h : Dp K H v (encNode nd)) : ∃ a xs, v = .ref a ∧ SqT K H a (.str (nodeW nd) :: xs) := by
  cases nd <;> first
    | (obtain ⟨a, x, rfl, hq, h1⟩ := dp1 h; obtain rfl := dpS h1; exact ⟨_, _, rfl, hq⟩)
    | (obtain ⟨a, x, y, rfl, hq, h1, _⟩ := dp2 h; obtain rfl := dpS h1; exact ⟨_, _, rfl, hq⟩)
    | (obtain ⟨a, x, y, z, rfl, hq, h1, _⟩ := dp3 h; obtain rfl := dpS h1; exact ⟨_, _, rfl, hq⟩)
    | (obtain ⟨a, x, y, z, u, rfl, hq, h1, _⟩ := dp4 h; obtain rfl := dpS h1; exact ⟨_, _, rfl, hq⟩)
def onesW : List Str := ["get", "has", "is", "not"]
def twosW : List Str := ["and", "or", "same", "less", "in", "contains"]
theorem inV_ones (z : Str) : inV (.str z) [.str "get", .str "has", .str "is", .str "not"] = decide (z ∈ onesW) := inV_strs z onesW
theorem inV_twos (z : Str) : inV (.str z) [.str "and", .str "or", .str "same", .str "less", .str "in", .str "contains"] = decide (z ∈ twosW) := inV_strs z twosW
theorem ok_operands (T : Top w K mg) : O_operands P w K mg base := by
  refine mk_ok (f_operands T) sc_operands rfl rfl (fun _ _ _ _ _ _ us hl => match us, hl with | [_], _ => rfl) (fun vs H Q E h => ?_) (fun f cdv A outer s H vs Q E hr h => ?_)
  · obtain ⟨v, nd, rfl, _⟩ := h
    rfl
  · obtain ⟨v, nd, rfl, hd, k⟩ := h
    have sc := sc_operands
    refine ⟨_, (pss_cons (ps_if (pt_cmpR op_in_seq (pe_ix ix_seq (pv 0) pe_int (fun _ _ => rfl)) (pe_gref (g_ONE_OPERAND T)) rfl)
      (pss_one (ps_ret (pe_tup (pa_cons (pe_ix ix_seq (pv 0) pe_int (fun _ _ => rfl)) pa_nil))))
      pss_nil)
      (pss_cons (ps_if (pt_cmpR op_in_seq (pe_ix ix_seq (pv 0) pe_int (fun _ _ => rfl)) (pe_gref (g_TWO_OPERANDS T)) rfl)
      (pss_one (ps_ret (pe_tup (pa_cons (pe_ix ix_seq (pv 0) pe_int (fun _ _ => rfl)) (pa_cons (pe_ix ix_seq (pv 0) pe_int (fun _ _ => rfl)) pa_nil)))))
      pss_nil)
      (pss_cons (ps_if (pt_cmpR op_eq (pe_ix ix_seq (pv 0) pe_int (fun _ _ => rfl)) pe_str (nomark _))
      (pss_one (ps_ret (pe_tup (pa_cons (pe_ix ix_seq (pv 0) pe_int (fun _ _ => rfl)) (pa_cons (pe_ix ix_seq (pv 0) pe_int (fun _ _ => rfl)) (pa_cons (pe_ix ix_seq (pv 0) pe_int (fun _ _ => rfl)) pa_nil))))))
      pss_nil)
      (pss_one (ps_ret (pe_tup pa_nil)))))), ?_⟩
    -- what the first two tests give
    have t1 : ∀ {a : Addr} {xs : List V} {z : Str} {b : Bool} {A1 A2 : Prop}, SqT K H a (.str z :: xs) → decide (z ∈ onesW) = b → (if b = true then A1 else A2) → if inV (.str z) [.str "get", .str "has", .str "is", .str "not"] = true then A1 else A2 := fun _ e h => by rw [inV_ones, e]; exact h
    have o1 : ∀ {z : Str}, z ∈ onesW → decide (z ∈ onesW) = true := fun h => decide_eq_true h
    cases nd with
    | one wd i n =>
      obtain ⟨a, x, y, z, rfl, hq, h1, h2, h3⟩ := dp3 hd
      obtain rfl := dpS h1
      obtain rfl := dpI h2
      refine ⟨_, rfl, rixT hq rfl ⟨_, _, rfl, .inr (t_ONE_OPERAND T H), rfl, rfl, _, rfl, ifT (by cases wd <;> decide +kernel) ?_⟩⟩
      refine ⟨_, rfl, rixT hq rfl ⟨by show 1 ≤ sizeLine; decide, fun p hp => k _ _ (same_new hp) (dp_new hp (.cons (.int _) .nil))⟩⟩
    | not_ i =>
      obtain ⟨a, x, y, rfl, hq, h1, h2⟩ := dp2 hd
      obtain rfl := dpS h1
      obtain rfl := dpI h2
      refine ⟨_, rfl, rixT hq rfl ⟨_, _, rfl, .inr (t_ONE_OPERAND T H), rfl, rfl, _, rfl, ifT (by decide +kernel) ?_⟩⟩
      refine ⟨_, rfl, rixT hq rfl ⟨by show 1 ≤ sizeLine; decide, fun p hp => k _ _ (same_new hp) (dp_new hp (.cons (.int _) .nil))⟩⟩
    | two wd i j =>
      obtain ⟨a, x, y, z, rfl, hq, h1, h2, h3⟩ := dp3 hd
      obtain rfl := dpS h1
      obtain rfl := dpI h2
      obtain rfl := dpI h3
      refine ⟨_, rfl, rixT hq rfl ⟨_, _, rfl, .inr (t_ONE_OPERAND T H), rfl, rfl, _, rfl, ifF (by cases wd <;> decide +kernel) ?_⟩⟩
      refine ⟨_, rfl, rixT hq rfl ⟨_, _, rfl, .inr (t_TWO_OPERANDS T H), rfl, rfl, _, rfl, ifT (by cases wd <;> decide +kernel) ?_⟩⟩
      refine ⟨_, rfl, rixT hq rfl ⟨_, rfl, rixT hq rfl ⟨by show 2 ≤ sizeLine; decide, fun p hp => k _ _ (same_new hp) (dp_new hp (.cons (.int _) (.cons (.int _) .nil)))⟩⟩⟩
    | ite i j l =>
      obtain ⟨a, x, y, z, u, rfl, hq, h1, h2, h3, h4⟩ := dp4 hd
      obtain rfl := dpS h1
      obtain rfl := dpI h2
      obtain rfl := dpI h3
      obtain rfl := dpI h4
      refine ⟨_, rfl, rixT hq rfl ⟨_, _, rfl, .inr (t_ONE_OPERAND T H), rfl, rfl, _, rfl, ifF (by decide +kernel) ?_⟩⟩
      refine ⟨_, rfl, rixT hq rfl ⟨_, _, rfl, .inr (t_TWO_OPERANDS T H), rfl, rfl, _, rfl, ifF (by decide +kernel) ?_⟩⟩
      refine ⟨_, rfl, rixT hq rfl ⟨rfl, _, rfl, ifT (by decide +kernel) ?_⟩⟩
      refine ⟨_, rfl, rixT hq rfl ⟨_, rfl, rixT hq rfl ⟨_, rfl, rixT hq rfl ⟨by show 3 ≤ sizeLine; decide, fun p hp => k _ _ (same_new hp) (dp_new hp (.cons (.int _) (.cons (.int _) (.cons (.int _) .nil))))⟩⟩⟩⟩
    | _ =>
      obtain ⟨a, xs, rfl, hq⟩ := node_hd hd
      simp only [nodeW] at hq
      refine ⟨_, rfl, rixT hq (atI_nat (j := 0) rfl) ⟨_, _, rfl, .inr (t_ONE_OPERAND T H), rfl, rfl, _, rfl, ifF (by decide +kernel) ?_⟩⟩
      refine ⟨_, rfl, rixT hq (atI_nat (j := 0) rfl) ⟨_, _, rfl, .inr (t_TWO_OPERANDS T H), rfl, rfl, _, rfl, ifF (by decide +kernel) ?_⟩⟩
      refine ⟨_, rfl, rixT hq (atI_nat (j := 0) rfl) ⟨rfl, _, rfl, ifF (by decide +kernel) ?_⟩⟩
      exact ⟨Nat.zero_le _, fun p hp => k _ _ (same_new hp) (dp_new hp .nil)⟩
theorem encInts_at {l : List Nat} {H : Hp} {xs : List V} (h : DpAll K H xs (encInts l)) : xs = l.map fun i : Nat => V.int (i : Int) := by
  induction l generalizing xs with
  | nil => cases h; rfl
  | cons i l ih =>
    cases h with
    | cons h1 h2 => rw [dpI h1, ih h2]; rfl
theorem encInts_of (l : List Nat) (H : Hp) : DpAll K H (l.map fun i : Nat => V.int (i : Int)) (encInts l) := by
  induction l with
  | nil => exact .nil
  | cons i l ih => exact .cons (.int _) ih
theorem startsGo_snoc : ∀ (l m : List Node) (pl : List Nat), startsGo (l ++ m) pl = startsGo m (startsGo l pl)
  | [], _, _ => rfl
  | a :: l, m, pl => by show startsGo (l ++ m) _ = _; rw [startsGo_snoc l m]; rfl
theorem startsGo_len : ∀ (l : List Node) (pl : List Nat), (startsGo l pl).length = pl.length + l.length
  | [], _ => rfl
  | a :: l, pl => by
    show (startsGo l _).length = _
    rw [startsGo_len l]
    simp
    omega
theorem ok_starts (T : Top w K mg) (h_operands : O_operands P w K mg base) : O_starts P w K mg base := by
  refine mk_ok (f_starts T) sc_starts rfl rfl (fun _ _ _ _ _ _ us hl => match us, hl with | [_], _ => rfl) (fun vs H Q E h => ?_) (fun f cdv A outer s H vs Q E hr h => ?_)
  · obtain ⟨v, e, rfl, _⟩ := h
    rfl
  · obtain ⟨v, e, rfl, hd, hop, hel, k⟩ := h
    have sc := sc_starts
    refine ⟨_, (pss_cons (ps_set (i := 1) sc.nd rfl (Or.inl rfl) (pe_lst pa_nil))
      (pss_cons (ps_for PassesOwn.never rfl (pi_enumT (by rfl) (n_enumerate T) (pa_cons (pv 0) pa_nil)) (pg_tup rfl (pgs_cons (pg_name (i := 2) sc.nd rfl (Or.inl rfl)) (pgs_cons (pg_name (i := 3) sc.nd rfl (Or.inl rfl)) pgs_nil)))
      (pss_cons (ps_set (i := 4) sc.nd rfl (Or.inl rfl) (pe_u h_operands hr rfl (g_operands T) (pa_cons (pv 3) pa_nil)))
        (pss_one (ps_expr (pe_bm PySem.F.plainAttrs_list PySem.F.slot_list_append PySem.F.type_list_append mt_append (pv 1) (pa_cons (pe_ifExp (pt_truth (pv 4) (by intro _; rfl)) (pe_ix ix_seq (pv 1) (pe_ix ix_seq (pv 4) pe_int (fun _ _ => rfl)) (fun _ _ => rfl)) (pv 2)) pa_nil))))))
      (pss_one (ps_ret (pv 1))))), ?_⟩
    obtain ⟨a, xs, rfl, hq, hx⟩ := dp_tup hd
    have hxl := enc_len hx
    refine ⟨Nat.zero_le _, fun L hL => ?_⟩
    refine ⟨_, rfl, a, xs, rfl, sqT_same (same_new hL) hq, for_it walk_enumT (fun i σ H1 => (∃ o2 o3 o4, σ = [some (.ref a), some (.ref L), o2, o3, o4]) ∧ Same H H1 ∧ H1 L = some (.lst ((startsGo (e.take i) []).map fun i : Nat => V.int (i : Int))))
      ⟨⟨_, _, _, rfl⟩, same_new hL, upd_same⟩ (fun _ _ _ _ h => sqT_same h.2.1 hq) ?_ ?_⟩
    · rintro i z σ H1 H2 hi ⟨⟨o2, o3, o4, rfl⟩, hS, hL1⟩ ⟨U, x, y, rfl, hU, rfl, hx1, hy1⟩
      cases hx1
      obtain ⟨nd, hnd, hyd⟩ := enc_at hx hy1
      have hS1 := same_new (o := HO.tup [V.int (i : Nat), y]) hU
      refine gp2 (SqT.of upd_same) ⟨_, rfl, _, nd, rfl, dp_same (hS.trans hS1) hyd, fun u H3 hS3 hu => ?_⟩
      obtain ⟨p, ys, rfl, hp, hys⟩ := dp_tup hu
      obtain rfl := encInts_at hys
      have hL3 := hS3 _ _ (hS1 _ _ hL1)
      have hlen : (startsGo (e.take i) []).length = i := by
        rw [startsGo_len, List.length_take, List.length_nil]
        have : i < e.length := by rw [← hxl]; exact hi
        omega
      have hie : i < e.length := by rw [← hxl]; exact hi
      have hnew : startsGo (e.take (i + 1)) [] = startsGo (e.take i) [] ++ [match ops nd with
          | o :: _ => (startsGo (e.take i) []).getD o 0
          | [] => (startsGo (e.take i) []).length] := by
        rw [List.take_add_one, hnd]
        show startsGo (e.take i ++ [nd]) [] = _
        rw [startsGo_snoc]
        rfl
      refine ⟨_, rfl, .inl ⟨rfl, _, sqN hL3⟩, ?_⟩
      have fin : ∀ j : Nat, (match ops nd with
          | o :: _ => (startsGo (e.take i) []).getD o 0
          | [] => (startsGo (e.take i) []).length) = j → ∃ xs', H3 L = some (.lst xs') ∧ xs'.length < sizeLine ∧ Same H (upd H3 L (.lst (xs' ++ [V.int (j : Int)]))) ∧ (upd H3 L (.lst (xs' ++ [V.int (j : Int)]))) L = some (.lst ((startsGo (e.take (i + 1)) []).map fun i : Nat => V.int (i : Int))) := fun j hj => by
        refine ⟨_, hL3, ?_, same_mut (hS.trans (hS1.trans hS3)) hL, ?_⟩
        · rw [List.length_map, hlen]
          exact szlt (by omega)
        · rw [upd_same, hnew, hj]
          simp
      cases hops : ops nd with
      | nil =>
        rw [hops] at hp
        refine ⟨_, rfl, false, .inr (.inl ⟨_, hp, rfl⟩), ifF rfl ?_⟩
        refine ⟨_, rfl, ?_⟩
        obtain ⟨xs', g1, g2, g3, g4⟩ := fin i (by rw [hops]; exact hlen)
        exact ⟨L, xs', _, rfl, rfl, g1, g2, ⟨_, _, _, rfl⟩, g3, g4⟩
      | cons o r =>
        rw [hops] at hp
        have ho : o < i := hop i nd hnd o (by rw [hops]; simp)
        refine ⟨_, rfl, true, .inr (.inl ⟨_, hp, rfl⟩), ifT rfl ?_⟩
        refine ⟨_, rfl, _, rfl, rixT hp (atI_nat (j := 0) rfl) (rixL (sqN hL3) (atI_nat (j := o) (v := V.int (((startsGo (e.take i) []).getD o 0 : Nat) : Int)) ?_) ?_)⟩
        · rw [List.getElem?_map, List.getElem?_eq_getElem (by omega)]
          simp [List.getD_eq_getElem?_getD, List.getElem?_eq_getElem (show o < (startsGo (e.take i) []).length by omega)]
        · obtain ⟨xs', g1, g2, g3, g4⟩ := fin _ (by rw [hops])
          exact ⟨L, xs', _, rfl, rfl, g1, g2, ⟨_, _, _, rfl⟩, g3, g4⟩
    · rintro σ H1 ⟨⟨o2, o3, o4, rfl⟩, hS, hL1⟩
      rw [List.take_of_length_le (by omega)] at hL1
      exact ⟨_, rfl, k L H1 _ hS hL hL1 (encInts_of _ _)⟩
end
end FF
set_option Elab.async false
set_option linter.all false
set_option maxRecDepth 100000
set_option maxHeartbeats 4000000
namespace FF
open PySem PySem.Spec PyProof.Rows L2
local macro_rules | `(tactic| walk_at "r") => `(tactic| repeat (first
   | refine ⟨_, rfl, ?_⟩
   | refine ⟨_, _, rfl, rfl, ?_⟩
   | refine ⟨rfl, ?_⟩
   | refine rixT (by assumption) rfl ?_
   | refine rixL (by assumption) rfl ?_
   | refine ifT (by decide +kernel) ?_
   | refine ifF (by decide +kernel) ?_))
section
variable {P : Program} {w : World} {K : PySem.W.Frag} {mg : Str → Option Value} {base : Heap}

theorem tps_put {H : Hp} {L : Addr} {xs : List V} {o : HO} (h : H L = some (.lst xs)) : Tps H (upd H L o) := fun c ys hc => by
  have hne : c ≠ L := by
    rintro rfl
    rcases hc with hc | ⟨o, hc⟩
    · rw [h] at hc; cases hc
    · rw [h] at hc; cases hc
  rcases hc with hc | ⟨o, hc⟩
  · exact .inl (by rw [upd_ne hne]; exact hc)
  · exact .inr ⟨o, by rw [upd_ne hne]; exact hc⟩
theorem rep_flat {α : Type} (x : α) : ∀ n : Nat, (List.replicate n [x]).flatten = List.replicate n x
  | 0 => rfl
  | n + 1 => by rw [List.replicate_succ, List.flatten_cons, rep_flat x n, List.replicate_succ]; rfl
theorem setOps_snoc (place o : Nat) : ∀ (l : List Nat) (n : Nat) (rs : List Role), setOps place (l ++ [o]) n rs = (setOps place l n rs).set o (some (place, n + l.length))
  | [], n, rs => rfl
  | a :: l, n, rs => by
    show setOps place (l ++ [o]) (n + 1) _ = _
    rw [setOps_snoc place o l (n + 1)]
    show _ = (setOps place l (n + 1) _).set o _
    rw [List.length_cons, show n + 1 + l.length = n + (l.length + 1) by omega]
theorem rolesGo_snoc (nd : Node) : ∀ (l : List Node) (p : Nat) (rs : List Role), rolesGo (l ++ [nd]) p rs = setOps (p + l.length) (ops nd) 0 (rolesGo l p rs)
  | [], p, rs => rfl
  | a :: l, p, rs => by
    show rolesGo (l ++ [nd]) (p + 1) _ = _
    rw [rolesGo_snoc nd l (p + 1)]
    show _ = setOps _ _ _ (rolesGo l (p + 1) _)
    rw [List.length_cons, show p + 1 + l.length = p + (l.length + 1) by omega]
theorem dpAll_set {H : Hp} : ∀ {xs : List V} {ds : List PyData} (j : Nat) {v : V} {d : PyData}, DpAll K H xs ds → Dp K H v d → DpAll K H (xs.set j v) (ds.set j d)
  | _, _, _, _, _, .nil, _ => .nil
  | _, _, 0, _, _, .cons _ t, h => .cons h t
  | _, _, j + 1, _, _, .cons h t, q => .cons h (dpAll_set j t q)
theorem noLs_roles (l : List Role) : noLs (l.map encRole) = true := noLs_map noL_role l
theorem dp_nones (H : Hp) : ∀ n : Nat, DpAll K H (List.replicate n V.non) ((List.replicate n (none : Role)).map encRole)
  | 0 => .nil
  | n + 1 => .cons .non (dp_nones H n)
theorem noteSome (rs : List Read) (r : Read) : noteRead rs (some r) = if r ∈ rs then rs else rs ++ [r] := rfl
theorem ixN_nat {n j : Nat} (h : j < n) : ixN n (j : Int) = some j := by
  have := atI_nat (xs := List.range n) (j := j) (v := j) (by simp [h])
  unfold atI at this
  rw [List.length_range] at this
  cases e : ixN n (j : Int) with
  | none => rw [e] at this; cases this
  | some k =>
    rw [e] at this
    have h2 : (List.range n)[k]? = some j := this
    have h3 : k < n := by
      rcases Nat.lt_or_ge k n with h | h
      · exact h
      · rw [List.getElem?_eq_none (by simpa using h)] at h2; cases h2
    rw [List.getElem?_range h3] at h2
    exact h2
theorem ok_roles (T : Top w K mg) (h_operands : O_operands P w K mg base) : O_roles P w K mg base := by
  refine mk_ok (f_roles T) sc_roles rfl rfl (fun _ _ _ _ _ _ us hl => match us, hl with | [_], _ => rfl) (fun vs H Q E h => ?_) (fun f cdv A outer s H vs Q E hr h => ?_)
  · obtain ⟨v, e, rfl, _⟩ := h
    rfl
  · obtain ⟨v, e, rfl, hd, hop, hel, k⟩ := h
    have sc := sc_roles
    refine ⟨_, (pss_cons (ps_set (i := 1) sc.nd rfl (Or.inl rfl) (pe_op op_rep (pe_lst (pa_cons pe_non pa_nil)) (pe_callB call_len (by rfl) (n_len T) PySem.boot_len (pa_cons (pv 0) pa_nil))))
      (pss_cons (ps_for PassesOwn.never rfl (pi_enumT (by rfl) (n_enumerate T) (pa_cons (pv 0) pa_nil)) (pg_tup rfl (pgs_cons (pg_name (i := 2) sc.nd rfl (Or.inl rfl)) (pgs_cons (pg_name (i := 3) sc.nd rfl (Or.inl rfl)) pgs_nil)))
      (pss_one (ps_for PassesOwn.never rfl (pi_enumT (by rfl) (n_enumerate T) (pa_cons (pe_u h_operands hr rfl (g_operands T) (pa_cons (pv 3) pa_nil)) pa_nil)) (pg_tup rfl (pgs_cons (pg_name (i := 4) sc.nd rfl (Or.inl rfl)) (pgs_cons (pg_name (i := 5) sc.nd rfl (Or.inl rfl)) pgs_nil)))
        (pss_one (ps_asg (pe_tup (pa_cons (pv 2) (pa_cons (pv 4) pa_nil))) (pg_sub (pv 1) (pv 5) set_list))))))
      (pss_one (ps_ret (pv 1))))), ?_⟩
    obtain ⟨a, xs, rfl, hq, hx⟩ := dp_tup hd
    have hxl := enc_len hx
    refine ⟨by show 1 ≤ sizeLine; decide, fun L0 hL0 => ?_⟩
    have hS0 := same_new (o := HO.lst [V.non]) hL0
    refine ⟨_, rfl, _, xs.length, rfl, lenT (sqT_same hS0 hq), L0, _, _, rfl, rfl, upd_same, by omega, by omega, szl (by simp; omega), fun L hL => ?_⟩
    have hLH : H L = none := by
      cases q : H L with
      | none => rfl
      | some u => rw [hS0 _ _ q] at hL; cases hL
    rw [Int.toNat_natCast, rep_flat, hxl]
    refine ⟨_, rfl, a, xs, rfl, sqT_same (hS0.trans (same_new hL)) hq, for_it walk_enumT (fun i σ H1 => (∃ o2 o3 o4 o5, σ = [some (.ref a), some (.ref L), o2, o3, o4, o5]) ∧ Same H H1 ∧ ∃ ys, H1 L = some (.lst ys) ∧ DpAll K H1 ys ((rolesGo (e.take i) 0 (List.replicate e.length none)).map encRole))
      ⟨⟨_, _, _, _, rfl⟩, hS0.trans (same_new hL), _, upd_same, ?_⟩ (fun _ _ _ _ h => sqT_same h.2.1 hq) ?_ ?_⟩
    · exact dp_nones _ _
    · rintro i z σ H1 H2 hi ⟨⟨o2, o3, o4, o5, rfl⟩, hS, ys, hL1, hys⟩ ⟨U, x, y, rfl, hU, rfl, hx1, hy1⟩
      cases hx1
      obtain ⟨nd, hnd, hyd⟩ := enc_at hx hy1
      have hie : i < e.length := by rw [← hxl]; exact hi
      have hS1 := same_new (o := HO.tup [V.int (i : Nat), y]) hU
      refine gp2 (SqT.of upd_same) ⟨_, rfl, _, nd, rfl, dp_same (hS.trans hS1) hyd, fun u H3 hS3 hu => ?_⟩
      obtain ⟨p, os, rfl, hp, hos⟩ := dp_tup hu
      obtain rfl := encInts_at hos
      have hL3 := hS3 _ _ (hS1 _ _ hL1)
      have hS13 := hS1.trans hS3
      refine ⟨p, _, rfl, hp, for_it walk_enumT (fun j σ H4 => (∃ o4 o5, σ = [some (.ref a), some (.ref L), some (.int (i : Nat)), some y, o4, o5]) ∧ Same H H4 ∧ SqT K H4 p ((ops nd).map fun i : Nat => V.int (i : Int)) ∧ ∃ ys, H4 L = some (.lst ys) ∧ DpAll K H4 ys ((setOps i ((ops nd).take j) 0 (rolesGo (e.take i) 0 (List.replicate e.length none))).map encRole))
        ⟨⟨_, _, rfl⟩, hS.trans hS13, hp, ys, hL3, dpAll_same hS13 hys⟩ (fun _ _ _ _ h => h.2.2.1) ?_ ?_⟩
      · rintro j z2 σ H4 H5 hj ⟨⟨o4, o5, rfl⟩, hS4, hp4, ys4, hL4, hys4⟩ ⟨U2, x2, y2, rfl, hU2, rfl, hx2, hy2⟩
        cases hx2
        obtain ⟨o, ho, rfl⟩ := map_at hy2
        have hoi : o < i := hop i nd hnd o (mem_at ho)
        have hS5 := same_new (o := HO.tup [V.int (j : Nat), V.int (o : Int)]) hU2
        refine gp2 (SqT.of upd_same) ⟨_, rfl, _, rfl, by show 2 ≤ sizeLine; decide, fun U3 hU3 => ?_⟩
        have hS6 := same_new (o := HO.tup [V.int (i : Nat), V.int (j : Nat)]) hU3
        have hL6 := hS6 _ _ (hS5 _ _ hL4)
        have hyl : ys4.length = e.length := by
          rw [enc_len hys4, setOps_len, rolesGo_len, List.length_replicate]
        have htps := tps_put (o := HO.lst (ys4.set o (V.ref U3))) hL6
        refine ⟨_, rfl, _, rfl, L, ys4, _, o, rfl, rfl, hL6, by rw [hyl]; exact ixN_nat (by omega), ⟨_, _, rfl⟩, same_mut (hS4.trans (hS5.trans hS6)) hLH, sqT_tps htps (sqT_same (hS5.trans hS6) hp4), _, upd_same, ?_⟩
        have e1 : setOps i ((ops nd).take (j + 1)) 0 (rolesGo (e.take i) 0 (List.replicate e.length none)) = (setOps i ((ops nd).take j) 0 (rolesGo (e.take i) 0 (List.replicate e.length none))).set o (some (i, j)) := by
          rw [List.take_add_one, ho]
          show setOps i ((ops nd).take j ++ [o]) 0 _ = _
          rw [setOps_snoc, Nat.zero_add, List.length_take]
          have : j < (ops nd).length := by simpa using hj
          rw [Nat.min_eq_left (by omega)]
        rw [e1, List.map_set]
        refine dpAll_set _ (dpAll_tps htps (noLs_roles _) (dpAll_same (hS5.trans hS6) hys4)) (dp_tps htps rfl ?_)
        exact dp_new hU3 (.cons (.int _) (.cons (.int _) .nil))
      · rintro σ H4 ⟨⟨o4, o5, rfl⟩, hS4, hp4, ys4, hL4, hys4⟩
        refine ⟨⟨_, _, _, _, rfl⟩, hS4, ys4, hL4, ?_⟩
        rw [List.take_of_length_le (by rw [List.length_map]; exact Nat.le_refl _)] at hys4
        rw [List.take_add_one, hnd]
        show DpAll K H4 ys4 ((rolesGo (e.take i ++ [nd]) 0 _).map encRole)
        rw [rolesGo_snoc, Nat.zero_add, List.length_take, Nat.min_eq_left (by omega)]
        exact hys4
    · rintro σ H1 ⟨⟨o2, o3, o4, o5, rfl⟩, hS, ys, hL1, hys⟩
      rw [List.take_of_length_le (by omega)] at hys
      exact ⟨_, rfl, k L H1 _ hS hLH hL1 hys⟩
theorem joinD_snoc (d1 : List PyData) (l : List PyData) (x : PyData) : joinD d1 (l ++ [x]) = if ((joinD d1 l).any fun z => PyData.eqv z x) = true then joinD d1 l else joinD d1 l ++ [x] := by
  unfold joinD
  rw [List.foldl_append]
  rfl
theorem joinD_txt {d1 : List PyData} (h1 : d1.all txt1 = true) : ∀ l : List PyData, l.all txt1 = true → (joinD d1 l).all txt1 = true := by
  intro l
  unfold joinD
  induction l generalizing d1 with
  | nil => intro _; exact h1
  | cons x l ih =>
    intro hl
    simp only [List.all_cons, Bool.and_eq_true] at hl
    simp only [List.foldl_cons]
    refine ih ?_ hl.2
    split
    · exact h1
    · rw [List.all_append, h1]; simp [hl.1]
theorem joinD_len (d1 : List PyData) : ∀ l : List PyData, (joinD d1 l).length ≤ d1.length + l.length := by
  intro l
  unfold joinD
  induction l generalizing d1 with
  | nil => simp
  | cons x l ih =>
    simp only [List.foldl_cons, List.length_cons]
    refine Nat.le_trans (ih _) ?_
    split
    · omega
    · rw [List.length_append, List.length_singleton]; omega
theorem all_take2 {l : List PyData} {p : PyData → Bool} (h : l.all p = true) (i : Nat) : (l.take i).all p = true := by
  rw [List.all_eq_true] at h ⊢
  exact fun x hx => h x (List.mem_of_mem_take hx)
theorem ok_join_reads (T : Top w K mg) : O_join_reads P w K mg base := by
  refine mk_ok (f_join_reads T) sc_join_reads rfl rfl (fun _ _ _ _ _ _ us hl => match us, hl with | [_, _], _ => rfl) (fun vs H Q E h => ?_) (fun f cdv A outer s H vs Q E hr h => ?_)
  · obtain ⟨v, u, d1, d2, rfl, _⟩ := h
    rfl
  · obtain ⟨v, u, d1, d2, rfl, hv, hu', ⟨ht1, ht2⟩, hlen, k⟩ := h
    have sc := sc_join_reads
    refine ⟨_, (pss_cons (ps_set (i := 2) sc.nd rfl (Or.inl rfl) (pe_callTy call_list_of (by rfl) (n_list T) (by decide +kernel) (pa_cons (pv 0) pa_nil)))
      (pss_cons (ps_for PassesOwn.never rfl (pi_or (pi_list (pv 1)) (pi_tup (pv 1))) (pg_name (i := 3) sc.nd rfl (Or.inl rfl))
      (pss_one (ps_if (pt_cmpR (op_notInS2 (u65 hr)) (pv 3) (pv 2) rfl)
        (pss_one (ps_expr (pe_bm PySem.F.plainAttrs_list PySem.F.slot_list_append PySem.F.type_list_append mt_append (pv 2) (pa_cons (pv 3) pa_nil))))
        pss_nil)))
      (pss_one (ps_ret (pv 2))))), ?_⟩
    obtain ⟨a, xs, rfl, hq, hx⟩ : ∃ a xs, v = .ref a ∧ (SqL K H a xs ∨ SqT K H a xs) ∧ DpAll K H xs d1 := by
      rcases hv with h | h
      · obtain ⟨a, xs, e, h1, h2⟩ := dp_lst h; exact ⟨a, xs, e, .inl h1, h2⟩
      · obtain ⟨a, xs, e, h1, h2⟩ := dp_tup h; exact ⟨a, xs, e, .inr h1, h2⟩
    obtain ⟨b, zs, rfl, hb, hz⟩ : ∃ a xs, u = .ref a ∧ (SqL K H a xs ∨ SqT K H a xs) ∧ DpAll K H xs d2 := by
      rcases hu' with h | h
      · obtain ⟨a, xs, e, h1, h2⟩ := dp_lst h; exact ⟨a, xs, e, .inl h1, h2⟩
      · obtain ⟨a, xs, e, h1, h2⟩ := dp_tup h; exact ⟨a, xs, e, .inr h1, h2⟩
    have hzl := dpAll_len hz
    refine ⟨_, rfl, a, xs, rfl, hq, fun L hL => ?_⟩
    let Pv : Nat → L2.St → Hp → Prop := fun i σ H1 => (∃ o3, σ = [some (.ref a), some (.ref b), some (.ref L), o3]) ∧ Same H H1 ∧ ∃ ys, H1 L = some (.lst ys) ∧ DpAll K H ys (joinD d1 (d2.take i))
    have h0 : Pv 0 [some (.ref a), some (.ref b), some (.ref L), none] (upd H L (.lst xs)) := ⟨⟨_, rfl⟩, same_new hL, xs, upd_same, hx⟩
    have hs : ∀ (D : Ends) (i : Nat) (x : V) (σ : L2.St) (H1 H2 : Hp), i < zs.length → Pv i σ H1 → YAt zs i H1 x H2 →
        gName 3 x σ H2 fun σ2 H2 => tIfS (tTest (tOp (rNotInS2 K) (tVar 3) (tVar 2))) (tDrop (tBM K "list" rAppend (tVar 2) (tCons (tVar 3) tNil))) tNext { D with nx := Pv (i + 1), ct := Pv (i + 1), bk := D.nx } σ2 H2 := by
      rintro D i x σ H1 H2 hi ⟨⟨o3, rfl⟩, hS, ys, hL1, hys⟩ ⟨rfl, hxi⟩
      obtain ⟨d, hd, hxd⟩ := dpAll_at hz hxi
      have htd : txt1 d = true := List.all_eq_true.mp ht2 d (mem_at hd)
      have htj := joinD_txt ht1 (d2.take i) (all_take2 ht2 i)
      have hjl := joinD_len d1 (d2.take i)
      rw [List.length_take] at hjl
      have hsn : joinD d1 (d2.take (i + 1)) = if ((joinD d1 (d2.take i)).any fun z => PyData.eqv z d) = true then joinD d1 (d2.take i) else joinD d1 (d2.take i) ++ [d] := by
        rw [List.take_add_one, hd]
        exact joinD_snoc d1 (d2.take i) d
      refine ⟨_, rfl, _, rfl, d, joinD d1 (d2.take i), dp_same hS hxd, .inl (.lst (sqN hL1) (dpAll_same hS hys)), shp (txt_lay htd).1 (by have := (txt_lay htd).2; omega), txt_lays htj, _, rfl, ?_⟩
      refine ifB (fun h4 => ?_) (fun h4 => ?_)
      · have h5 : ((joinD d1 (d2.take i)).any fun z => PyData.eqv z d) = false := by simpa using h4
        refine ⟨_, rfl, .inl ⟨rfl, _, sqN hL1⟩, _, rfl, L, _, _, rfl, rfl, hL1, ?_, ⟨_, rfl⟩, same_mut hS hL, _, upd_same, ?_⟩
        · rw [dpAll_len hys]
          exact Nat.lt_of_lt_of_le (show _ < 10000001 by omega) (by decide)
        · rw [hsn, h5]
          exact dpAll_app hys (.cons hxd .nil)
      · have h5 : ((joinD d1 (d2.take i)).any fun z => PyData.eqv z d) = true := by simpa using h4
        refine ⟨⟨_, rfl⟩, hS, ys, hL1, ?_⟩
        rw [hsn, if_pos h5]
        exact hys
    have hd : ∀ (σ : L2.St) (H1 : Hp), Pv zs.length σ H1 → ∃ x, σ[2]? = some (some x) ∧ Q x H1 := by
      rintro σ H1 ⟨⟨o3, rfl⟩, hS, ys, hL1, hys⟩
      rw [List.take_of_length_le (by omega)] at hys
      exact ⟨_, rfl, k L H1 hS hL (.lst (sqN hL1) (dpAll_same hS hys))⟩
    rcases hb with hb | hb
    · exact .inl ⟨_, rfl, b, rfl, ⟨_, sqL_same (same_new hL) hb⟩, for_it walk_list Pv h0 (fun _ _ _ _ h => sqL_same h.2.1 hb) (hs _) hd⟩
    · exact .inr ⟨_, rfl, b, rfl, ⟨_, sqT_same (same_new hL) hb⟩, for_it walk_tup Pv h0 (fun _ _ _ _ h => sqT_same h.2.1 hb) (hs _) hd⟩
theorem ok_truth (T : Top w K mg) : O_truth P w K mg base := by
  refine mk_ok (f_truth T) sc_truth rfl rfl (fun _ _ _ _ _ _ us hl => match us, hl with | [_], _ => rfl) (fun vs H Q E h => ?_) (fun f cdv A outer s H vs Q E hr h => ?_)
  · obtain ⟨b, rfl, _⟩ := h
    rfl
  · obtain ⟨b, rfl, k⟩ := h
    have sc := sc_truth
    refine ⟨_, (pss_one (ps_ret (pe_tup (pa_cons pe_str (pa_cons (pe_ifExp (pt_val (pv 0)) (pe_gref (g_YES T)) (pe_gref (g_NO T))) pa_nil))))), ?_⟩
    refine ⟨_, rfl, _, rfl, ifB (fun h1 => ?_) (fun h1 => ?_)⟩
    · subst h1
      exact ⟨by show 2 ≤ sizeLine; decide, fun p hp => k _ _ (same_new hp) (dp_new hp (.cons (.str _) (.cons (yes_dp T H) .nil)))⟩
    · subst h1
      exact ⟨by show 2 ≤ sizeLine; decide, fun p hp => k _ _ (same_new hp) (dp_new hp (.cons (.str _) (.cons (no_dp T H) .nil)))⟩
theorem told_ref {H : Hp} {u : V} {t : Told} (h : Dp K H u (encTold t)) : ∃ a, u = V.ref a := by
  cases t <;> (obtain ⟨a, _, e, _⟩ := dp_tup h; exact ⟨a, e⟩)
theorem noLs_reads (l : List Read) : noLs (l.map encRead) = true := noLs_map noL_read l
theorem ok_ask (T : Top w K mg) (h_Database_tell : O_Database_tell P w K mg base) : O_ask P w K mg base := by
  refine mk_ok (f_ask T) sc_ask rfl rfl (fun _ _ _ _ _ _ us hl => match us, hl with | [_, _, _], _ => rfl) (fun vs H Q E h => ?_) (fun f cdv A outer s H vs Q E hr h => ?_)
  · obtain ⟨a, es, v, r, rl, rs, rfl, _⟩ := h
    rfl
  · obtain ⟨a, es, v, r, rl, rs, rfl, hdb, hv, hro, hrs, hlen, k⟩ := h
    have sc := sc_ask
    refine ⟨_, (pss_cons (ps_set (i := 3) sc.nd rfl (Or.inl rfl) (pe_mU h_Database_tell hr (cl_Database T) (me_Database_tell T) (pv 0) (pa_cons (pv 1) pa_nil)))
      (pss_cons (ps_if (PW.pt (pw_and (pt_cmpR op_notN (pv 3) pe_non (nomark _)) (pw_and1 (pt_cmpR (op_notInS2 (u65 hr)) (pv 1) (pv 2) rfl))))
      (pss_one (ps_expr (pe_bm PySem.F.plainAttrs_list PySem.F.slot_list_append PySem.F.type_list_append mt_append (pv 2) (pa_cons (pv 1) pa_nil))))
      pss_nil)
      (pss_one (ps_ret (pv 3))))), ?_⟩
    obtain ⟨⟨dx, t, kvs, g1, g2, g3, g4⟩, hok⟩ := hdb
    have hdb : DbAt K H a es := ⟨⟨dx, t, kvs, g1, g2, g3, g4⟩, hok⟩
    obtain ⟨hr1, hr2, xs, hL, hxs⟩ := hrs
    refine ⟨_, rfl, a, dx, _, rfl, g1, rfl, _, rfl, a, es, v, r, rfl, hdb, hv, fun u H1 hS hu => ?_⟩
    obtain ⟨b, rfl⟩ := told_ref hu
    have hL1 := hS _ _ hL
    refine ⟨_, rfl, rfl, _, rfl, ifT (by simp) ⟨_, rfl, _, rfl, encRead r, rs.map encRead, dp_same hS hv, .inl (.lst (sqN hL1) (dpAll_same hS hxs)), shp_read hro, shp_reads hr2, _, rfl, ?_⟩⟩
    rw [any_eqv eqv_read]
    refine ifB (fun h4 => ?_) (fun h4 => ?_)
    · have h5 : r ∉ rs := by simpa using h4
      have htps := tps_put (o := HO.lst (xs ++ [v])) hL1
      refine ⟨_, rfl, .inl ⟨rfl, _, sqN hL1⟩, _, rfl, rl, _, _, rfl, rfl, hL1, ?_, _, rfl, k _ _ (But.put (But.of hS)) ?_ (dp_tps htps (noL_told _) hu)⟩
      · rw [enc_len hxs]
        exact szlt (by omega)
      · rw [noteSome, if_neg h5]
        refine ⟨by rw [List.length_append, List.length_singleton]; omega, fun q hq => ?_, _, upd_same, ?_⟩
        · rcases List.mem_append.mp hq with h | h
          · exact hr2 q h
          · rw [List.mem_singleton.mp h]; exact hro
        · rw [List.map_append]
          exact dpAll_app (dpAll_tps htps (noLs_reads _) (dpAll_same hS hxs)) (.cons (dp_tps htps (noL_read _) (dp_same hS hv)) .nil)
    · have h5 : r ∈ rs := by simpa using h4
      refine ⟨_, rfl, k _ _ (But.of hS) ?_ hu⟩
      rw [noteSome, if_pos h5]
      exact ⟨hr1, hr2, xs, hL1, dpAll_same hS hxs⟩
end
end FF
set_option Elab.async false
set_option linter.all false
set_option maxRecDepth 100000
set_option maxHeartbeats 4000000
namespace FF
open PySem PySem.Spec PyProof.Rows L2
local macro_rules | `(tactic| walk_at "r") => `(tactic| repeat (first
   | refine ⟨_, rfl, ?_⟩
   | refine ⟨_, _, rfl, rfl, ?_⟩
   | refine ⟨rfl, ?_⟩
   | refine rixT (by assumption) rfl ?_
   | refine rixL (by assumption) rfl ?_
   | refine ifT (by decide +kernel) ?_
   | refine ifF (by decide +kernel) ?_))
section
variable {P : Program} {w : World} {K : PySem.W.Frag} {mg : Str → Option Value} {base : Heap}

def valW : Val → Str
  | .sc s => scW s
  | .st _ => "set"
def valD : Val → PyData
  | .sc s => scD s
  | .st l => .tuple (l.map encScal)
theorem val_hd {H : Hp} {v : V} {x : Val} (h : Dp K H v (encVal x)) : ∃ a y, v = .ref a ∧ SqT K H a [.str (valW x), y] ∧ Dp K H y (valD x) := by
  cases x with
  | sc s => exact dp_scal h
  | st l =>
    obtain ⟨a, x, y, rfl, hq, h1, h2⟩ := dp2 h
    obtain rfl := dpS h1
    exact ⟨a, y, rfl, hq, h2⟩
theorem val_ref {H : Hp} {v : V} {x : Val} (h : Dp K H v (encVal x)) : ∃ a, v = V.ref a := by
  obtain ⟨a, y, e, _⟩ := val_hd h
  exact ⟨a, e⟩
theorem rds_same {H H' : Hp} {rl : Addr} {rs : List Read} (e : Same H H') (h : RdsAt K H rl rs) : RdsAt K H' rl rs := by
  obtain ⟨h1, h2, xs, h3, h4⟩ := h
  exact ⟨h1, h2, xs, e _ _ h3, dpAll_same e h4⟩
theorem out_none {H : Hp} {rl : Addr} {rs : List Read} {o : Out} {Q : VK} (k : outQ K rl rs (o, none) H Q) (h : RdsAt K H rl rs) {u : V} {H' : Hp} (hS : Same H H') (hu : Dp K H' u (encOut o)) : Q u H' :=
  k u H' (But.of hS) (rds_same hS h) hu
theorem ok_leaf (T : Top w K mg) (h_context_value : O_context_value P w K mg base) (h_truth : O_truth P w K mg base) : O_leaf P w K mg base := by
  refine mk_ok (f_leaf T) sc_leaf rfl rfl (fun _ _ _ _ _ _ us hl => match us, hl with | [_, _], _ => rfl) (fun vs H Q E h => ?_) (fun f cdv A outer s H vs Q E hr h => ?_)
  · obtain ⟨v, q, nd, rq, rfl, _⟩ := h
    rfl
  · obtain ⟨v, q, nd, rq, rfl, hd, hq, hops, k⟩ := h
    have sc := sc_leaf
    obtain ⟨es', n', KD⟩ := parts_kd T
    refine ⟨_, (pss_cons (ps_if (pt_cmpR op_eq (pe_ix ix_seq (pv 0) pe_int (fun _ _ => rfl)) pe_str (nomark _))
      (pss_one (ps_ret (pe_tup (pa_cons pe_str (pa_cons (pe_ix ix_seq (pv 0) pe_int (fun _ _ => rfl)) pa_nil)))))
      pss_nil)
      (pss_cons (ps_if (pt_cmpR (op_in_kd KD) (pe_ix ix_seq (pv 0) pe_int (fun _ _ => rfl)) (pe_gref (g_PARTS T)) rfl)
      (pss_one (ps_ret (pe_tup (pa_cons pe_str (pa_cons (pe_tup (pa_cons pe_str (pa_cons (pe_ix ix_seq (pv 1) (pe_kdget KD (pe_gref (g_PARTS T)) (pe_ix ix_seq (pv 0) pe_int (fun _ _ => rfl)) (fun _ _ => rfl)) (fun _ _ => rfl)) pa_nil))) pa_nil)))))
      pss_nil)
      (pss_cons (ps_set (i := 2) sc.nd rfl (Or.inl rfl) (pe_u h_context_value hr rfl (g_context_value T) (pa_cons (pv 1) (pa_cons (pe_ix ix_seq (pv 0) pe_int (fun _ _ => rfl)) pa_nil))))
      (pss_cons (ps_if (pt_cmpR op_eq (pe_ix ix_seq (pv 0) pe_int (fun _ _ => rfl)) pe_str (nomark _))
      (pss_one (ps_ret (pe_u h_truth hr rfl (g_truth T) (pa_cons (pe_cmpR op_notN (pv 2) pe_non (nomark _)) pa_nil))))
      pss_nil)
      (pss_one (ps_ret (pe_ifExp (pt_cmpR op_isN (pv 2) pe_non (nomark _)) (pe_gref (g_NO_ATTRIBUTE T)) (pe_tup (pa_cons pe_str (pa_cons (pv 2) pa_nil)))))))))), ?_⟩
    obtain ⟨b, p, c, d, e, rfl, hb, hp, hc, hdd, he⟩ := dp4 hq
    obtain rfl := dpS hp
    obtain rfl := dpS hc
    obtain rfl := dpS hdd
    have part : ∀ (z : Str) (i : Nat) (u : Str), (z, He.Dv.int (i : Int)) ∈ ([("principal", .int 0), ("action", .int 1), ("resource", .int 2)] : List (Str × He.Dv)) → atI [V.str rq.p, .str rq.a, .str rq.r, e] (i : Int) = some (.str u) →
        ∃ r u0, PySem.W.nsIn K (He.ga K "PARTS") z = some r ∧ r.isSome = true ∧ r = some u0 ∧ RelV (.int (i : Int)) u0 := fun z i u h1 h2 => by
      obtain ⟨u0, h3, h4⟩ := parts_some T h1
      exact ⟨_, u0, h3, rfl, rfl, h4⟩
    have out : ∀ (x : Val) (v : V) (H' : Hp), Same H H' → leafOut rq nd = .value x → Dp K H' v (encVal x) → ∀ p, H' p = none → Q (.ref p) (upd H' p (.tup [.str "value", v])) := fun x v H' hS e hv p hp => by
      refine k _ _ (hS.trans (same_new hp)) ?_
      rw [e]
      exact dp_new hp (.cons (.str _) (.cons hv .nil))
    have ent : ∀ (z : Str) (a : Addr) (i : Nat) (u : Str), SqT K H a [.str z] → (z, He.Dv.int (i : Int)) ∈ ([("principal", .int 0), ("action", .int 1), ("resource", .int 2)] : List (Str × He.Dv)) → atI [V.str rq.p, .str rq.a, .str rq.r, e] (i : Int) = some (.str u) → leafOut rq nd = .value (.sc (.en u)) →
        ∀ p, H p = none → ∀ p2, (upd H p (.tup [.str "entity", .str u])) p2 = none → Q (.ref p2) (upd (upd H p (.tup [.str "entity", .str u])) p2 (.tup [.str "value", .ref p])) := fun z a i u _ _ _ e p hp p2 hp2 => out _ _ _ (same_new hp) e (dp_new hp (.cons (.str _) (.cons (.str _) .nil))) p2 hp2
    cases nd with
    | value x =>
      obtain ⟨a, x', y, rfl, hq', h1, h2⟩ := dp2 hd
      obtain rfl := dpS h1
      walk_at "r"
      exact ⟨by show 2 ≤ sizeLine; decide, fun p hp => out x y H (Same.refl _) rfl h2 p hp⟩
    | prin =>
      obtain ⟨a, x', rfl, hq', h1⟩ := dp1 hd
      obtain rfl := dpS h1
      obtain ⟨u0, h3, h4⟩ := parts_some T (z := "principal") (i := 0) (by simp)
      refine ⟨_, rfl, rixT hq' rfl ⟨rfl, _, rfl, ifF (by decide +kernel) ⟨_, rfl, rixT hq' rfl ⟨_, _, rfl, rfl, h3, _, rfl, ifT rfl ?_⟩⟩⟩⟩
      refine ⟨_, rfl, _, rfl, rixT hq' rfl ⟨_, u0, _, rfl, rfl, h3, h4, rixT hb rfl ⟨by show 2 ≤ sizeLine; decide, fun p hp => ⟨by show 2 ≤ sizeLine; decide, ent _ a 0 rq.p hq' (by simp) rfl rfl p hp⟩⟩⟩⟩
    | act =>
      obtain ⟨a, x', rfl, hq', h1⟩ := dp1 hd
      obtain rfl := dpS h1
      obtain ⟨u0, h3, h4⟩ := parts_some T (z := "action") (i := 1) (by simp)
      refine ⟨_, rfl, rixT hq' rfl ⟨rfl, _, rfl, ifF (by decide +kernel) ⟨_, rfl, rixT hq' rfl ⟨_, _, rfl, rfl, h3, _, rfl, ifT rfl ?_⟩⟩⟩⟩
      refine ⟨_, rfl, _, rfl, rixT hq' rfl ⟨_, u0, _, rfl, rfl, h3, h4, rixT hb rfl ⟨by show 2 ≤ sizeLine; decide, fun p hp => ⟨by show 2 ≤ sizeLine; decide, ent _ a 1 rq.a hq' (by simp) rfl rfl p hp⟩⟩⟩⟩
    | res =>
      obtain ⟨a, x', rfl, hq', h1⟩ := dp1 hd
      obtain rfl := dpS h1
      obtain ⟨u0, h3, h4⟩ := parts_some T (z := "resource") (i := 2) (by simp)
      refine ⟨_, rfl, rixT hq' rfl ⟨rfl, _, rfl, ifF (by decide +kernel) ⟨_, rfl, rixT hq' rfl ⟨_, _, rfl, rfl, h3, _, rfl, ifT rfl ?_⟩⟩⟩⟩
      refine ⟨_, rfl, _, rfl, rixT hq' rfl ⟨_, u0, _, rfl, rfl, h3, h4, rixT hb rfl ⟨by show 2 ≤ sizeLine; decide, fun p hp => ⟨by show 2 ≤ sizeLine; decide, ent _ a 2 rq.r hq' (by simp) rfl rfl p hp⟩⟩⟩⟩
    | ctx n =>
      obtain ⟨a, x', y, rfl, hq', h1, h2⟩ := dp2 hd
      obtain rfl := dpS h1
      obtain rfl := dpS h2
      have h3 := parts_none T (z := "context") (by decide +kernel)
      refine ⟨_, rfl, rixT hq' rfl ⟨rfl, _, rfl, ifF (by decide +kernel) ⟨_, rfl, rixT hq' rfl ⟨_, _, rfl, rfl, h3, _, rfl, ifF rfl ?_⟩⟩⟩⟩
      refine ⟨_, rfl, _, rfl, rixT hq' rfl ⟨_, n, rq, rfl, hq, fun x hx v hv => ?_, fun hx => ?_⟩⟩
      · obtain ⟨b', rfl⟩ := val_ref hv
        refine ⟨_, rfl, rixT hq' rfl ⟨rfl, _, rfl, ifF (by decide +kernel) ?_⟩⟩
        refine ⟨_, rfl, rfl, _, rfl, ifF (by simp) ⟨_, rfl, by show 2 ≤ sizeLine; decide, fun p hp => out x _ H (Same.refl _) (by simp [leafOut, hx]) hv p hp⟩⟩
      · refine ⟨_, rfl, rixT hq' rfl ⟨rfl, _, rfl, ifF (by decide +kernel) ?_⟩⟩
        refine ⟨_, rfl, rfl, _, rfl, ifT (by simp) (k _ H (Same.refl _) ?_)⟩
        have e2 : leafOut rq (.ctx n) = .fails "no attribute" := by simp [leafOut, hx]
        rw [e2]
        exact na_dp T H
    | given n =>
      obtain ⟨a, x', y, rfl, hq', h1, h2⟩ := dp2 hd
      obtain rfl := dpS h1
      obtain rfl := dpS h2
      have h3 := parts_none T (z := "given") (by decide +kernel)
      refine ⟨_, rfl, rixT hq' rfl ⟨rfl, _, rfl, ifF (by decide +kernel) ⟨_, rfl, rixT hq' rfl ⟨_, _, rfl, rfl, h3, _, rfl, ifF rfl ?_⟩⟩⟩⟩
      refine ⟨_, rfl, _, rfl, rixT hq' rfl ⟨_, n, rq, rfl, hq, fun x hx v hv => ?_, fun hx => ?_⟩⟩
      · obtain ⟨b', rfl⟩ := val_ref hv
        refine ⟨_, rfl, rixT hq' rfl ⟨rfl, _, rfl, ifT (by decide +kernel) ?_⟩⟩
        refine ⟨_, rfl, rfl, true, by simp, fun u H' hS hu => k u H' hS ?_⟩
        have e2 : leafOut rq (.given n) = truth true := by simp [leafOut, hx]
        rw [e2]
        exact hu
      · refine ⟨_, rfl, rixT hq' rfl ⟨rfl, _, rfl, ifT (by decide +kernel) ?_⟩⟩
        refine ⟨_, rfl, rfl, false, by simp, fun u H' hS hu => k u H' hS ?_⟩
        have e2 : leafOut rq (.given n) = truth false := by simp [leafOut, hx]
        rw [e2]
        exact hu
    | _ => cases hops
end
end FF
set_option Elab.async false
set_option linter.all false
set_option maxRecDepth 100000
set_option maxHeartbeats 4000000
namespace FF
open PySem PySem.Spec PyProof.Rows L2
local macro_rules | `(tactic| walk_at "r") => `(tactic| repeat (first
   | refine ⟨_, rfl, ?_⟩
   | refine ⟨_, _, rfl, rfl, ?_⟩
   | refine ⟨rfl, ?_⟩
   | refine rixT (by assumption) rfl ?_
   | refine rixL (by assumption) rfl ?_
   | refine ifT (by decide +kernel) ?_
   | refine ifF (by decide +kernel) ?_))
section
variable {P : Program} {w : World} {K : PySem.W.Frag} {mg : Str → Option Value} {base : Heap}

theorem valW_ne {x : Val} (h : ∀ u, x ≠ .sc (.en u)) : valW x ≠ "entity" := by
  cases x with
  | sc s =>
    cases s with
    | en u => exact absurd rfl (h u)
    | _ => simp only [valW, scW]; decide +kernel
  | st l => simp only [valW]; decide +kernel
theorem ok_attribute (T : Top w K mg) (h_ask : O_ask P w K mg base) (h_truth : O_truth P w K mg base) : O_attribute P w K mg base := by
  refine mk_ok (f_attribute T) sc_attribute rfl rfl (fun _ _ _ _ _ _ us hl => match us, hl with | [_, _, _, _], _ => rfl) (fun vs H Q E h => ?_) (fun f cdv A outer s H vs Q E hr h => ?_)
  · obtain ⟨vn, vv, a, es, rl, rs, wd, i, n, x, rfl, _⟩ := h
    rfl
  · obtain ⟨vn, vv, a, es, rl, rs, wd, i, n, x, rfl, hn, hw, hnm, hv, hg, hdb, hrs, hlen, k⟩ := h
    have sc := sc_attribute
    refine ⟨_, (pss_cons (ps_if (pt_cmpR op_ne (pe_ix ix_seq (pv 1) pe_int (fun _ _ => rfl)) pe_str (nomark _))
      (pss_one (ps_ret (pe_gref (g_WRONG_KIND T))))
      pss_nil)
      (pss_cons (ps_set (i := 4) sc.nd rfl (Or.inl rfl) (pe_tup (pa_cons pe_str (pa_cons (pe_ix ix_seq (pv 1) pe_int (fun _ _ => rfl)) (pa_cons (pe_ix ix_seq (pv 0) pe_int (fun _ _ => rfl)) pa_nil)))))
      (pss_cons (ps_set (i := 5) sc.nd rfl (Or.inl rfl) (pe_u h_ask hr rfl (g_ask T) (pa_cons (pv 2) (pa_cons (pv 4) (pa_cons (pv 3) pa_nil)))))
      (pss_cons (ps_if (pt_cmpR op_isN (pv 5) pe_non (nomark _))
      (pss_one (ps_ret (pe_tup (pa_cons pe_str (pa_cons (pv 4) pa_nil)))))
      pss_nil)
      (pss_cons (ps_if (pt_cmpR op_eq (pe_ix ix_seq (pv 0) pe_int (fun _ _ => rfl)) pe_str (nomark _))
      (pss_one (ps_ret (pe_u h_truth hr rfl (g_truth T) (pa_cons (pe_cmpR op_eq (pe_ix ix_seq (pv 5) pe_int (fun _ _ => rfl)) pe_str (nomark _)) pa_nil))))
      pss_nil)
      (pss_cons (ps_if (pt_cmpR op_eq (pe_ix ix_seq (pv 5) pe_int (fun _ _ => rfl)) pe_str (nomark _))
      (pss_one (ps_ret (pe_gref (g_NO_ENTITY T))))
      pss_nil)
      (pss_one (ps_ret (pe_ifExp (pt_cmpR op_eq (pe_ix ix_seq (pv 5) pe_int (fun _ _ => rfl)) pe_str (nomark _)) (pe_gref (g_NO_ATTRIBUTE T)) (pv 5)))))))))), ?_⟩
    obtain ⟨b, z1, z2, z3, rfl, hq, h1, h2, h3⟩ := dp3 hn
    obtain rfl := dpS h1
    obtain rfl := dpI h2
    obtain rfl := dpS h3
    obtain ⟨c, y, rfl, hc, hy⟩ := val_hd hv
    by_cases hx : ∃ u, x = .sc (.en u)
    · obtain ⟨u, rfl⟩ := hx
      obtain rfl : y = V.str u := dpS hy
      replace hc : SqT K H c [.str "entity", .str u] := hc
      walk_at "r"
      refine ⟨by show 3 ≤ sizeLine; decide, fun p hp => ?_⟩
      have hS := same_new (o := HO.tup [V.str "attribute", .str u, .str n]) hp
      have hro : readOk (.attr u n) = true := read_attr hg hnm
      refine ⟨_, rfl, _, rfl, _, rfl, a, es, _, .attr u n, rl, rs, rfl, db_same hS hdb, dp_new hp (.cons (.str _) (.cons (.str _) (.cons (.str _) .nil))), hro, rds_same hS hrs, hlen, fun v H1 hB hrs1 hv1 => ?_⟩
      obtain ⟨rr1, rr2, xs, hLr, _⟩ := hrs
      have htp : Tps H H1 := fun c ys hc => hB.tps (hS _ _ hLr) c ys (FF.Same.tps hS c ys hc)
      have hB0 : But rl H H1 := (But.of hS).trans hB
      have hq1 := sqT_tps htp hq
      obtain ⟨d, rfl⟩ := told_ref hv1
      refine ⟨_, rfl, rfl, _, rfl, ifF (by simp) ?_⟩
      have fin : ∀ (o : Out) (v : V) (H' : Hp), Same H1 H' → (oneOut (tell es) wd n (.sc (.en u))).1 = o → Dp K H' v (encOut o) → Q v H' := fun o v H' hS' e hv' => by
        have e2 : (oneOut (tell es) wd n (.sc (.en u))).2 = some (.attr u n) := by cases wd <;> first | rfl | exact absurd rfl hw
        refine k v H' (hB0.trans (But.of hS')) ?_ (by rw [e]; exact hv')
        rw [e2]
        exact rds_same hS' hrs1
      cases wd with
      | is_ => exact absurd rfl hw
      | has =>
        refine ⟨_, rfl, rixT hq1 rfl ⟨rfl, _, rfl, ifT (by decide +kernel) ?_⟩⟩
        cases ht : tell es (.attr u n) with
        | value z =>
          rw [ht] at hv1
          obtain ⟨d', w1, w2, e, hd', g1, g2⟩ := dp2 hv1
          cases e
          obtain rfl := dpS g1
          refine ⟨_, rfl, rixT hd' rfl ⟨rfl, true, by simp, fun u' H' hS' hu' => fin (truth true) u' H' hS' (by simp [oneOut, ht]) hu'⟩⟩
        | gone =>
          rw [ht] at hv1
          obtain ⟨d', w1, e, hd', g1⟩ := dp1 hv1
          cases e
          obtain rfl := dpS g1
          refine ⟨_, rfl, rixT hd' rfl ⟨rfl, false, by simp; decide +kernel, fun u' H' hS' hu' => fin (truth false) u' H' hS' (by simp [oneOut, ht]) hu'⟩⟩
        | none =>
          rw [ht] at hv1
          obtain ⟨d', w1, e, hd', g1⟩ := dp1 hv1
          cases e
          obtain rfl := dpS g1
          refine ⟨_, rfl, rixT hd' rfl ⟨rfl, false, by simp; decide +kernel, fun u' H' hS' hu' => fin (truth false) u' H' hS' (by simp [oneOut, ht]) hu'⟩⟩
        | above us =>
          rw [ht] at hv1
          obtain ⟨d', w1, w2, e, hd', g1, g2⟩ := dp2 hv1
          cases e
          obtain rfl := dpS g1
          refine ⟨_, rfl, rixT hd' rfl ⟨rfl, false, by simp; decide +kernel, fun u' H' hS' hu' => fin (truth false) u' H' hS' (by simp [oneOut, ht]) hu'⟩⟩
      | get =>
        refine ⟨_, rfl, rixT hq1 rfl ⟨rfl, _, rfl, ifF (by decide +kernel) ?_⟩⟩
        cases ht : tell es (.attr u n) with
        | value z =>
          rw [ht] at hv1
          obtain ⟨d', w1, w2, e, hd', g1, g2⟩ := dp2 hv1
          cases e
          obtain rfl := dpS g1
          refine ⟨_, rfl, rixT hd' rfl ⟨rfl, _, rfl, ifF (by decide +kernel) ⟨_, rfl, rixT hd' rfl ⟨rfl, _, rfl, ifF (by decide +kernel) ⟨_, rfl, ?_⟩⟩⟩⟩⟩
          exact fin (.value z) _ H1 (Same.refl _) (by simp [oneOut, ht]) hv1
        | gone =>
          rw [ht] at hv1
          obtain ⟨d', w1, e, hd', g1⟩ := dp1 hv1
          cases e
          obtain rfl := dpS g1
          refine ⟨_, rfl, rixT hd' rfl ⟨rfl, _, rfl, ifT (by decide +kernel) ?_⟩⟩
          exact fin (.fails "no entity") _ H1 (Same.refl _) (by simp [oneOut, ht]) (ne_dp T H1)
        | none =>
          rw [ht] at hv1
          obtain ⟨d', w1, e, hd', g1⟩ := dp1 hv1
          cases e
          obtain rfl := dpS g1
          refine ⟨_, rfl, rixT hd' rfl ⟨rfl, _, rfl, ifF (by decide +kernel) ⟨_, rfl, rixT hd' rfl ⟨rfl, _, rfl, ifT (by decide +kernel) ?_⟩⟩⟩⟩
          exact fin (.fails "no attribute") _ H1 (Same.refl _) (by simp [oneOut, ht]) (na_dp T H1)
        | above us =>
          exfalso
          unfold tell at ht
          simp only at ht
          split at ht
          · cases ht
          · split at ht <;> cases ht
    · have hx' : ∀ u, x ≠ .sc (.en u) := fun u e => hx ⟨u, e⟩
      refine ⟨_, rfl, rixT hc rfl ⟨rfl, _, rfl, ifT (by simp [valW_ne hx']) ?_⟩⟩
      have e : oneOut (tell es) wd n x = (wrongKind, none) := by
        unfold oneOut
        split
        · exact absurd rfl (hx' _)
        · rfl
      rw [e] at k
      exact out_none k hrs (Same.refl _) (wk_dp T H)
theorem ok_one (T : Top w K mg) (h_attribute : O_attribute P w K mg base) (h_kind_of : O_kind_of P w K mg base) (h_truth : O_truth P w K mg base) : O_one P w K mg base := by
  refine mk_ok (f_one T) sc_one rfl rfl (fun _ _ _ _ _ _ us hl => match us, hl with | [_, _, _, _], _ => rfl) (fun vs H Q E h => ?_) (fun f cdv A outer s H vs Q E hr h => ?_)
  · obtain ⟨vn, vv, a, es, rl, rs, nd, x, rfl, _⟩ := h
    rfl
  · obtain ⟨vn, vv, a, es, rl, rs, nd, x, rfl, hn, hops, hnok, hv, hg, hdb, hrs, hlen, k⟩ := h
    have sc := sc_one
    refine ⟨_, (pss_cons (ps_if (pt_cmpR op_eq (pe_ix ix_seq (pv 0) pe_int (fun _ _ => rfl)) pe_str (nomark _))
      (pss_one (ps_ret (pe_ifExp (pt_cmpR op_eq (pe_ix ix_seq (pv 1) pe_int (fun _ _ => rfl)) pe_str (nomark _)) (pe_u h_truth hr rfl (g_truth T) (pa_cons (pe_not (pe_ix ix_seq (pv 1) pe_int (fun _ _ => rfl))) pa_nil)) (pe_gref (g_WRONG_KIND T)))))
      pss_nil)
      (pss_cons (ps_if (pt_cmpR op_eq (pe_ix ix_seq (pv 0) pe_int (fun _ _ => rfl)) pe_str (nomark _))
      (pss_one (ps_ret (pe_ifExp (pt_cmpR op_eq (pe_ix ix_seq (pv 1) pe_int (fun _ _ => rfl)) pe_str (nomark _)) (pe_u h_truth hr rfl (g_truth T) (pa_cons (pe_cmpR op_eq (pe_u h_kind_of hr rfl (g_kind_of T) (pa_cons (pe_ix ix_seq (pv 1) pe_int (fun _ _ => rfl)) pa_nil)) (pe_ix ix_seq (pv 0) pe_int (fun _ _ => rfl)) (nomark _)) pa_nil)) (pe_gref (g_WRONG_KIND T)))))
      pss_nil)
      (pss_one (ps_ret (pe_u h_attribute hr rfl (g_attribute T) (pa_cons (pv 0) (pa_cons (pv 1) (pa_cons (pv 2) (pa_cons (pv 3) pa_nil))))))))), ?_⟩
    obtain ⟨c, y, rfl, hc, hy⟩ := val_hd hv
    cases nd with
    | not_ i =>
      obtain ⟨b, z1, z2, rfl, hq, h1, h2⟩ := dp2 hn
      obtain rfl := dpS h1
      refine ⟨_, rfl, rixT hq rfl ⟨rfl, _, rfl, ifT (by decide +kernel) ?_⟩⟩
      by_cases hx : ∃ b, x = .sc (.tr b)
      · obtain ⟨b', rfl⟩ := hx
        obtain rfl : y = V.bl b' := dpB hy
        replace hc : SqT K H c [.str "truth", .bl b'] := hc
        refine ⟨_, rfl, rixT hc rfl ⟨rfl, _, rfl, ifT (by decide +kernel) ⟨_, rfl, rixT hc rfl ⟨b', rfl, !b', rfl, fun u H' hS hu => ?_⟩⟩⟩⟩
        exact out_none k hrs hS hu
      · have hw : valW x ≠ "truth" := by
          cases x with
          | sc s =>
            cases s with
            | tr b => exact absurd ⟨b, rfl⟩ hx
            | _ => simp only [valW, scW]; decide +kernel
          | st l => simp only [valW]; decide +kernel
        refine ⟨_, rfl, rixT hc rfl ⟨rfl, _, rfl, ifF (by simp [hw]) ?_⟩⟩
        have e : oneRes (tell es) (.not_ i) x = (wrongKind, none) := by
          unfold oneRes notOut
          split
          · rename_i q; cases q
          · simp only [Prod.mk.injEq, and_true]
            split
            · exact absurd ⟨_, rfl⟩ hx
            · rfl
        rw [e] at k
        exact out_none k hrs (Same.refl _) (wk_dp T H)
    | one wd i n =>
      obtain ⟨b, z1, z2, z3, rfl, hq, h1, h2, h3⟩ := dp3 hn
      obtain rfl := dpS h1
      obtain rfl := dpI h2
      obtain rfl := dpS h3
      by_cases hw : wd = .is_
      · subst hw
        replace hq : SqT K H b [.str "is", .int i, .str n] := hq
        refine ⟨_, rfl, rixT hq rfl ⟨rfl, _, rfl, ifF (by decide +kernel) ⟨_, rfl, rixT hq rfl ⟨rfl, _, rfl, ifT (by decide +kernel) ?_⟩⟩⟩⟩
        by_cases hx : ∃ u, x = .sc (.en u)
        · obtain ⟨u, rfl⟩ := hx
          obtain rfl : y = V.str u := dpS hy
          replace hc : SqT K H c [.str "entity", .str u] := hc
          refine ⟨_, rfl, rixT hc rfl ⟨rfl, _, rfl, ifT (by decide +kernel) ⟨_, rfl, rixT hc rfl ⟨u, rfl, Nat.le_trans (uid_len hg) (by decide), fun H1 hS1 => ?_⟩⟩⟩⟩
          refine ⟨_, rfl, rixT (sqT_same hS1 hq) rfl ⟨rfl, decide (kindOf u = n), by simp, fun u' H' hS hu => ?_⟩⟩
          exact out_none k hrs (hS1.trans hS) hu
        · have hx' : ∀ u, x ≠ .sc (.en u) := fun u e => hx ⟨u, e⟩
          refine ⟨_, rfl, rixT hc rfl ⟨rfl, _, rfl, ifF (by simp [valW_ne hx']) ?_⟩⟩
          have e : oneRes (tell es) (.one .is_ i n) x = (wrongKind, none) := by
            unfold oneRes oneOut
            simp only
          rw [e] at k
          exact out_none k hrs (Same.refl _) (wk_dp T H)
      · refine ⟨_, rfl, rixT hq rfl ⟨rfl, _, rfl, ifF (by cases wd <;> decide +kernel) ⟨_, rfl, rixT hq rfl ⟨rfl, _, rfl, ifF (by cases wd <;> first | exact absurd rfl hw | decide +kernel) ?_⟩⟩⟩⟩
        exact ⟨_, rfl, _, rfl, _, rfl, _, rfl, _, _, a, es, rl, rs, wd, i, n, x, rfl, hn, hw, hnok, hv, hg, hdb, hrs, hlen, k⟩
    | two w i j => simp [ops] at hops
    | ite i j l => simp [ops] at hops
    | _ => simp [ops] at hops
theorem mapM_some {l : List Scal} {us : List Str} (h : (l.mapM fun s => match s with
    | .en u => some u
    | _ => none) = some us) : l = us.map Scal.en := by
  induction l generalizing us with
  | nil => simp at h; subst h; rfl
  | cons s l ih =>
    rw [List.mapM_cons] at h
    cases s with
    | en u =>
      simp only [Option.bind_eq_bind, Option.bind_some] at h
      cases e : (l.mapM fun s => match s with
        | .en u => some u
        | _ => none) with
      | none => rw [e] at h; cases h
      | some vs =>
        rw [e] at h
        simp at h
        subst h
        rw [List.map_cons, ← ih e]
    | _ => simp at h
theorem mapM_none {l : List Scal} (h : (l.mapM fun s => match s with
    | .en u => some u
    | _ => none) = none) : ∃ s ∈ l, ∀ u, s ≠ .en u := by
  induction l with
  | nil => simp at h
  | cons s l ih =>
    rw [List.mapM_cons] at h
    cases s with
    | en u =>
      simp only [Option.bind_eq_bind, Option.bind_some] at h
      cases e : (l.mapM fun s => match s with
        | .en u => some u
        | _ => none) with
      | none =>
        obtain ⟨s, h1, h2⟩ := ih e
        exact ⟨s, by simp [h1], h2⟩
      | some vs => rw [e] at h; simp at h
    | tr b => exact ⟨.tr b, by simp, fun u e => by cases e⟩
    | nu i => exact ⟨.nu i, by simp, fun u e => by cases e⟩
    | tx z => exact ⟨.tx z, by simp, fun u e => by cases e⟩
theorem scW_ne {s : Scal} (h : ∀ u, s ≠ .en u) : scW s ≠ "entity" := by
  cases s with
  | en u => exact absurd rfl (h u)
  | _ => simp only [scW]; decide +kernel
theorem ok_uids (T : Top w K mg) : O_uids P w K mg base := by
  refine mk_ok (f_uids T) sc_uids rfl rfl (fun _ _ _ _ _ _ us hl => match us, hl with | [_], _ => rfl) (fun vs H Q E h => ?_) (fun f cdv A outer s H vs Q E hr h => ?_)
  · obtain ⟨v, x, rfl, _⟩ := h
    rfl
  · obtain ⟨v, x, rfl, hv, hg, k0, k1⟩ := h
    have sc := sc_uids
    refine ⟨_, (pss_cons (ps_if (pt_cmpR op_eq (pe_ix ix_seq (pv 0) pe_int (fun _ _ => rfl)) pe_str (nomark _))
      (pss_one (ps_ret (pe_lst (pa_cons (pe_ix ix_seq (pv 0) pe_int (fun _ _ => rfl)) pa_nil))))
      pss_nil)
      (pss_cons (ps_if (pt_cmpR op_ne (pe_ix ix_seq (pv 0) pe_int (fun _ _ => rfl)) pe_str (nomark _))
      (pss_one (ps_ret pe_non))
      pss_nil)
      (pss_cons (ps_for PassesOwn.never rfl (pi_tup (pe_ix ix_seq (pv 0) pe_int (fun _ _ => rfl))) (pg_name (i := 1) sc.nd rfl (Or.inl rfl))
      (pss_one (ps_if (pt_cmpR op_ne (pe_ix ix_seq (pv 1) pe_int (fun _ _ => rfl)) pe_str (nomark _))
        (pss_one (ps_ret pe_non))
        pss_nil)))
      (pss_one (ps_ret (pe_lc (own := [("item", 1)]) rfl sc.nd (pi_tup (pe_ix ix_seq (pv 0) pe_int (fun _ _ => rfl))) (blkOk_by (own := [("item", 1)]) (N := N_uids) (sc := defScope s_uids) (by decide +kernel)) (fun _ _ _ _ _ => (pg_name (i := 1) sc.nd rfl (Or.inl rfl))) (fun _ _ _ _ _ => pts_nil) (fun _ _ _ _ _ => (pe_ix (r := rIx K) ix_seq (pv 1) pe_int (fun _ _ => rfl))))))))), ?_⟩
    obtain ⟨c, y, rfl, hc, hy⟩ := val_hd hv
    cases x with
    | sc s =>
      by_cases hx : ∃ u, s = .en u
      · obtain ⟨u, rfl⟩ := hx
        obtain rfl : y = V.str u := dpS hy
        replace hc : SqT K H c [.str "entity", .str u] := hc
        refine ⟨_, rfl, rixT hc rfl ⟨rfl, _, rfl, ifT (by decide +kernel) ⟨_, rfl, rixT hc rfl ⟨by show 1 ≤ sizeLine; decide, fun p hp => ?_⟩⟩⟩⟩
        exact k1 [u] rfl p _ (same_new hp) hp (dp_newL hp (.cons (.str _) .nil))
      · have hx' : ∀ u, s ≠ .en u := fun u e => hx ⟨u, e⟩
        have e : uidsOf (.sc s) = none := by cases s <;> first | rfl | exact absurd rfl (hx' _)
        refine ⟨_, rfl, rixT hc rfl ⟨rfl, _, rfl, ifF (by simp [valW, scW_ne hx']) ⟨_, rfl, rixT hc rfl ⟨rfl, _, rfl, ifT ?_ (k0 e H (Same.refl _))⟩⟩⟩⟩
        have : valW (.sc s) ≠ "set" := by cases s <;> (simp only [valW, scW]; decide +kernel)
        simp [this]
    | st l =>
      obtain ⟨b, xs, rfl, hb, hx⟩ := dp_tup hy
      have hxl := enc_len hx
      replace hc : SqT K H c [.str "set", .ref b] := hc
      refine ⟨_, rfl, rixT hc rfl ⟨rfl, _, rfl, ifF (by decide +kernel) ⟨_, rfl, rixT hc rfl ⟨rfl, _, rfl, ifF (by decide +kernel) ?_⟩⟩⟩⟩
      refine ⟨_, rfl, rixT hc rfl ⟨b, rfl, ⟨_, hb⟩, for_it walk_tup (fun i σ H1 => H1 = H ∧ (∃ o, σ = [some (.ref c), o]) ∧ ∀ s ∈ l.take i, ∃ u, s = Scal.en u) ⟨rfl, ⟨_, rfl⟩, by simp⟩ (fun _ _ H1 _ h => by rw [h.1]; exact hb) ?_ ?_⟩⟩
      · rintro i z σ H1 H2 hi ⟨rfl, ⟨o, rfl⟩, ha⟩ ⟨rfl, hz⟩
        obtain ⟨s0, e0, hz⟩ := enc_at hx hz
        obtain ⟨d, y2, rfl, hd, hy2⟩ := dp_scal hz
        by_cases hs : ∃ u, s0 = .en u
        · obtain ⟨u, rfl⟩ := hs
          refine ⟨_, rfl, rixT hd rfl ⟨rfl, _, rfl, ifF (by simp only [scW]; decide +kernel) ⟨rfl, ⟨_, rfl⟩, fun s hs => ?_⟩⟩⟩
          rw [List.take_add_one, e0] at hs
          rcases List.mem_append.mp hs with h | h
          · exact ha s h
          · simp at h; exact ⟨u, h⟩
        · have hs' : ∀ u, s0 ≠ .en u := fun u e => hs ⟨u, e⟩
          refine ⟨_, rfl, rixT hd rfl ⟨rfl, _, rfl, ifT (by simp [scW_ne hs']) ?_⟩⟩
          refine k0 ?_ _ (Same.refl _)
          show (l.mapM fun s => match s with
            | .en u => some u
            | _ => none) = none
          cases e : (l.mapM fun s => match s with
            | .en u => some u
            | _ => none) with
          | none => rfl
          | some us =>
            have := mapM_some e
            rw [this] at e0
            obtain ⟨u, _, e2⟩ := map_at e0
            exact absurd e2 (hs' u)
      · rintro σ H1 ⟨rfl, ⟨o, rfl⟩, ha⟩
        rw [List.take_of_length_le (by omega)] at ha
        obtain ⟨us, hus⟩ : ∃ us, uidsOf (.st l) = some us := by
          show ∃ us, (l.mapM fun s => match s with
            | .en u => some u
            | _ => none) = some us
          cases e : (l.mapM fun s => match s with
            | .en u => some u
            | _ => none) with
          | none =>
            obtain ⟨s, h1, h2⟩ := mapM_none e
            obtain ⟨u, rfl⟩ := ha s h1
            exact absurd rfl (h2 u)
          | some us => exact ⟨us, rfl⟩
        have hl : l = us.map Scal.en := mapM_some hus
        refine ⟨_, rfl, rixT hc rfl ⟨b, rfl, ⟨_, hb⟩, fun D hD => lc_it walk_tup (fun i H2 => Same H1 H2 ∧ H2 D = some (.lst ((us.take i).map V.str))) ⟨same_new hD, upd_same⟩ (fun _ _ _ h => sqT_same h.1 hb) ?_ ?_⟩⟩
        · rintro i z H2 H3 hi ⟨hS2, hL⟩ ⟨rfl, hz⟩
          obtain ⟨s0, e0, hz⟩ := enc_at hx hz
          rw [hl] at e0
          obtain ⟨u, hu, rfl⟩ := map_at e0
          obtain ⟨d, y2, rfl, hd, hy2⟩ := dp_scal hz
          obtain rfl : y2 = V.str u := dpS hy2
          refine ⟨rfl, tyes rfl ⟨_, rfl, rixT (sqT_same hS2 hd) rfl ⟨_, hL, ?_, same_mut hS2 hD, ?_⟩⟩⟩
          · rw [List.length_map, List.length_take]
            have := hg.1
            rw [hl, List.length_map] at this
            exact szlt (by omega)
          · rw [upd_same, List.take_add_one, hu]
            simp
        · rintro H2 ⟨hS2, hL⟩
          rw [List.take_of_length_le (by rw [hxl, hl, List.length_map]; exact Nat.le_refl _)] at hL
          exact k1 us hus D H2 hS2 hD (.lst (sqN hL) (dpAll_ofStrs us))
end
end FF
set_option Elab.async false
set_option linter.all false
set_option maxRecDepth 100000
set_option maxHeartbeats 4000000
namespace FF
open PySem PySem.Spec PyProof.Rows L2
local macro_rules | `(tactic| walk_at "r") => `(tactic| repeat (first
   | refine ⟨_, rfl, ?_⟩
   | refine ⟨_, _, rfl, rfl, ?_⟩
   | refine ⟨rfl, ?_⟩
   | refine rixT (by assumption) rfl ?_
   | refine rixL (by assumption) rfl ?_
   | refine ifT (by decide +kernel) ?_
   | refine ifF (by decide +kernel) ?_))
section
variable {P : Program} {w : World} {K : PySem.W.Frag} {mg : Str → Option Value} {base : Heap}

theorem u64 {A : Around} {k : Nat} (hr : Room k A) : A.units + 64 < cLine := by have := u65 hr; omega
theorem ok_within (T : Top w K mg) (h_uids : O_uids P w K mg base) (h_ask : O_ask P w K mg base) (h_truth : O_truth P w K mg base) : O_within P w K mg base := by
  refine mk_ok (f_within T) sc_within rfl rfl (fun _ _ _ _ _ _ us hl => match us, hl with | [_, _, _, _], _ => rfl) (fun vs H Q E h => ?_) (fun f cdv A outer s H vs Q E hr h => ?_)
  · obtain ⟨va, vb, a, es, rl, rs, x, y, rfl, _⟩ := h
    rfl
  · obtain ⟨va, vb, a, es, rl, rs, x, y, rfl, hva, hvb, hgx, hgy, hdb, hrs, hlen, k⟩ := h
    have sc := sc_within
    refine ⟨_, (pss_cons (ps_set (i := 4) sc.nd rfl (Or.inl rfl) (pe_u h_uids hr rfl (g_uids T) (pa_cons (pv 1) pa_nil)))
      (pss_cons (ps_if (PW.pt (pw_or (pt_cmpR op_ne (pe_ix ix_seq (pv 0) pe_int (fun _ _ => rfl)) pe_str (nomark _)) (pw_or1 (pt_cmpR op_isN (pv 4) pe_non (nomark _)))))
      (pss_one (ps_ret (pe_gref (g_WRONG_KIND T))))
      pss_nil)
      (pss_cons (ps_if (pt_cmpR op_in_seq (pe_ix ix_seq (pv 0) pe_int (fun _ _ => rfl)) (pv 4) rfl)
      (pss_one (ps_ret (pe_u h_truth hr rfl (g_truth T) (pa_cons pe_bl pa_nil))))
      pss_nil)
      (pss_cons (ps_if (pt_not (pt_truth (pv 4) (by intro _; rfl)))
      (pss_one (ps_ret (pe_u h_truth hr rfl (g_truth T) (pa_cons pe_bl pa_nil))))
      pss_nil)
      (pss_cons (ps_set (i := 5) sc.nd rfl (Or.inl rfl) (pe_tup (pa_cons pe_str (pa_cons (pe_ix ix_seq (pv 0) pe_int (fun _ _ => rfl)) pa_nil))))
      (pss_cons (ps_set (i := 6) sc.nd rfl (Or.inr rfl) (pe_u h_ask hr rfl (g_ask T) (pa_cons (pv 2) (pa_cons (pv 5) (pa_cons (pv 3) pa_nil)))))
      (pss_cons (ps_if (pt_cmpR op_isN (pv 6) pe_non (nomark _))
      (pss_one (ps_ret (pe_tup (pa_cons pe_str (pa_cons (pv 5) pa_nil)))))
      pss_nil)
      (pss_one (ps_ret (pe_u h_truth hr rfl (g_truth T) (pa_cons (pe_callB (cr_any rfl) (by rfl) (n_any T) (by decide +kernel) (pa_cons (pe_lc (own := [("uid", 7)]) rfl sc.nd (pi_list (pv 4)) (blkOk_by (own := [("uid", 7)]) (N := N_within) (sc := defScope s_within) (by decide +kernel)) (fun _ _ _ _ _ => (pg_name (i := 7) sc.nd rfl (Or.inl rfl))) (fun _ _ _ _ _ => pts_nil) (fun _ _ _ _ _ => (pe_cmpR (r := rIn K false) op_in_seq (pv 7) (pe_ix (r := rIx K) ix_seq (pv 6) pe_int (fun _ _ => rfl)) rfl))) pa_nil)) pa_nil))))))))))), ?_⟩
    obtain ⟨c, y0, rfl, hc, hy0⟩ := val_hd hva
    have wrong : ∀ H', Same H H' → inOut (tell es) x y = (wrongKind, none) → Q (.ref (He.ga K "WRONG_KIND")) H' := fun H' hS e => by
      rw [e] at k
      exact out_none k hrs hS (wk_dp T H')
    refine ⟨_, rfl, vb, y, rfl, hvb, hgy, fun hn H1 hS1 => ?_, fun us hus D H1 hS1 hD hL => ?_⟩
    · -- no uids
      have e : inOut (tell es) x y = (wrongKind, none) := by
        unfold inOut
        rw [hn]
        split
        · rename_i q; cases q
        · rfl
      have hc1 := sqT_same hS1 hc
      refine ⟨_, rfl, rixT hc1 rfl ⟨rfl, _, rfl, ifB (fun _ => wrong H1 hS1 e) (fun _ => ⟨_, rfl, rfl, _, rfl, ?_⟩)⟩⟩
      exact ifT (by simp) (wrong H1 hS1 e)
    · have hc1 := sqT_same hS1 hc
      by_cases hx : ∃ u, x = .sc (.en u)
      · obtain ⟨u, rfl⟩ := hx
        obtain rfl : y0 = V.str u := dpS hy0
        replace hc1 : SqT K H1 c [.str "entity", .str u] := hc1
        have eIn : inOut (tell es) (.sc (.en u)) y = if u ∈ us then (truth true, none) else if us = [] then (truth false, none) else (truth (us.any fun x => decide (x ∈ aboveOf (tell es (.anc u)))), some (.anc u)) := by
          unfold inOut
          rw [hus]
        obtain ⟨D', xs, e', hD', hxs⟩ := dp_lst hL
        cases e'
        obtain rfl := dpAll_strs hxs
        refine ⟨_, rfl, rixT hc1 rfl ⟨rfl, _, rfl, ifF (by decide +kernel) ⟨_, rfl, rfl, _, rfl, ifF (by simp) ?_⟩⟩⟩
        refine ⟨_, rfl, rixT hc1 rfl ⟨_, rfl, D, _, rfl, .inl hD', rfl, flat_strs _, _, rfl, ?_⟩⟩
        show if inV (.str u) (us.map V.str) = true then _ else _
        rw [inV_strs]
        by_cases hm : u ∈ us
        · refine ifT (by simpa using hm) ⟨true, rfl, fun v H2 hS2 hv => ?_⟩
          rw [eIn, if_pos hm] at k
          exact out_none k hrs (hS1.trans hS2) hv
        · refine ifF (by simpa using hm) ?_
          rw [eIn, if_neg hm] at k
          by_cases hu0 : us = []
          · subst hu0
            rw [if_pos rfl] at k
            refine ⟨_, rfl, false, .inl ⟨_, hD', rfl⟩, ifT rfl ⟨false, rfl, fun v H2 hS2 hv => ?_⟩⟩
            exact out_none k hrs (hS1.trans hS2) hv
          · rw [if_neg hu0] at k
            refine ⟨_, rfl, true, .inl ⟨_, hD', by cases us with | nil => exact absurd rfl hu0 | cons _ _ => rfl⟩, ifF rfl ?_⟩
            refine ⟨_, rfl, rixT hc1 rfl ⟨by show 2 ≤ sizeLine; decide, fun p hp => ?_⟩⟩
            have hS2 := same_new (o := HO.tup [V.str "ancestors", .str u]) hp
            have hS02 := hS1.trans hS2
            have hro : readOk (.anc u) = true := read_anc hgx
            refine ⟨_, rfl, _, rfl, _, rfl, a, es, _, .anc u, rl, rs, rfl, db_same hS02 hdb, dp_new hp (.cons (.str _) (.cons (.str _) .nil)), hro, rds_same hS02 hrs, hlen, fun v H3 hB hrs1 hv1 => ?_⟩
            obtain ⟨d, w1, w2, rfl, hd, g1, g2⟩ := dp2 hv1
            obtain ⟨d2, ys, rfl, hd2, hys⟩ := dp_tup g2
            obtain rfl := dpAll_strs hys
            have hne : D ≠ rl := by
              rintro rfl
              obtain ⟨_, _, zs, hz, _⟩ := hrs
              rw [hz] at hD
              cases hD
            have hD3 : SqL K H3 D (us.map V.str) := hB.lst hne (sqL_same hS2 hD')
            refine ⟨_, rfl, rfl, _, rfl, ifF (by simp) ?_⟩
            refine ⟨_, rfl, D, rfl, ⟨_, hD3⟩, fun L hL => lc_it walk_list (fun i H4 => Same H3 H4 ∧ H4 L = some (.lst (((us.take i).map fun x => decide (x ∈ anc es u)).map V.bl))) ⟨same_new hL, upd_same⟩ (fun _ _ _ h => sqL_same h.1 hD3) ?_ ?_⟩
            · rintro i z H4 H5 hi ⟨hS4, hL4⟩ ⟨rfl, hz⟩
              obtain ⟨q, hq, rfl⟩ := map_at hz
              refine ⟨rfl, tyes rfl ⟨_, rfl, _, rfl, rixT (sqT_same hS4 hd) rfl ⟨_, _, rfl, .inr (sqT_same hS4 hd2), rfl, flat_strs _, _, hL4, ?_, same_mut hS4 hL, ?_⟩⟩⟩
              · rw [List.length_map, List.length_map, List.length_take]
                have h1 : us.length ≤ 8 := by
                  cases y with
                  | sc s =>
                    cases s <;> simp [uidsOf] at hus
                    subst hus
                    simp
                  | st l =>
                    have := mapM_some hus
                    have h2 := hgy.1
                    rw [this, List.length_map] at h2
                    exact h2
                exact szlt (by omega)
              · rw [upd_same, List.take_add_one, hq]
                show some (HO.lst (_ ++ [V.bl (inV (.str q) ((anc es u).map V.str))])) = _
                rw [inV_strs]
                simp
            · rintro H4 ⟨hS4, hL4⟩
              rw [List.take_of_length_le (by rw [List.length_map]; exact Nat.le_refl _)] at hL4
              refine ⟨L, _, rfl, sqN hL4, _, rfl, fun v H5 hS5 hv5 => k v H5 ((But.of hS02).trans (hB.trans (But.of (hS4.trans hS5)))) (rds_same (hS4.trans hS5) hrs1) ?_⟩
              have e : (((us.map fun x => decide (x ∈ anc es u))).any id) = us.any fun x => decide (x ∈ aboveOf (tell es (.anc u))) := by
                rw [List.any_map]
                rfl
              rw [e] at hv5
              exact hv5
      · have hx' : ∀ u, x ≠ .sc (.en u) := fun u e => hx ⟨u, e⟩
        refine ⟨_, rfl, rixT hc1 rfl ⟨rfl, _, rfl, ifT (by simp [valW_ne hx']) (wrong H1 hS1 ?_)⟩⟩
        unfold inOut
        split
        · exact absurd rfl (hx' _)
        · rfl
end
end FF
set_option Elab.async false
set_option linter.all false
set_option maxRecDepth 100000
set_option maxHeartbeats 4000000
namespace FF
open PySem PySem.Spec PyProof.Rows L2
local macro_rules | `(tactic| walk_at "r") => `(tactic| repeat (first
   | refine ⟨_, rfl, ?_⟩
   | refine ⟨_, _, rfl, rfl, ?_⟩
   | refine ⟨rfl, ?_⟩
   | refine rixT (by assumption) rfl ?_
   | refine rixL (by assumption) rfl ?_
   | refine ifT (by decide +kernel) ?_
   | refine ifF (by decide +kernel) ?_))
section
variable {P : Program} {w : World} {K : PySem.W.Frag} {mg : Str → Option Value} {base : Heap}

theorem eqv_no (x : Val) (b : Bool) : PyData.eqv (encVal x) (encVal (.sc (.tr b))) = decide (x = .sc (.tr b)) := eqv_val _ _
theorem valW_is {x : Val} {z : Str} (h : valW x = z) : (z = "truth" ↔ ∃ b, x = .sc (.tr b)) ∧ (z = "number" ↔ ∃ i, x = .sc (.nu i)) ∧ (z = "set" ↔ ∃ l, x = .st l) := by
  subst h
  cases x with
  | sc s => cases s <;> simp [valW, scW] <;> decide +kernel
  | st l => simp [valW] <;> decide +kernel
theorem ok_two (T : Top w K mg) (h_within : O_within P w K mg base) (h_truth : O_truth P w K mg base) : O_two P w K mg base := by
  refine mk_ok (f_two T) sc_two rfl rfl (fun _ _ _ _ _ _ us hl => match us, hl with | [_, _, _, _, _], _ => rfl) (fun vs H Q E h => ?_) (fun f cdv A outer s H vs Q E hr h => ?_)
  · obtain ⟨vn, va, vb, a, es, rl, rs, wd, i, j, x, y, rfl, _⟩ := h
    rfl
  · obtain ⟨vn, va, vb, a, es, rl, rs, wd, i, j, x, y, rfl, hn, hva, hvb, hgx, hgy, hdb, hrs, hlen, k⟩ := h
    have sc := sc_two
    refine ⟨_, (pss_cons (ps_set (i := 5) sc.nd rfl (Or.inl rfl) (pe_ix ix_seq (pv 0) pe_int (fun _ _ => rfl)))
      (pss_cons (ps_if (pt_cmpR op_eq (pv 5) pe_str (nomark _))
      (pss_one (ps_ret (pe_u h_truth hr rfl (g_truth T) (pa_cons (pe_cmpR (op_eqD (u64 hr)) (pv 1) (pv 2) (nomark _)) pa_nil))))
      pss_nil)
      (pss_cons (ps_if (pt_cmpR op_eq (pv 5) pe_str (nomark _))
      (pss_cons (ps_if (PW.pt (pw_or (pt_cmpR op_ne (pe_ix ix_seq (pv 1) pe_int (fun _ _ => rfl)) pe_str (nomark _)) (pw_or1 (pt_cmpR op_ne (pe_ix ix_seq (pv 2) pe_int (fun _ _ => rfl)) pe_str (nomark _)))))
        (pss_one (ps_ret (pe_gref (g_WRONG_KIND T))))
        pss_nil)
        (pss_one (ps_ret (pe_u h_truth hr rfl (g_truth T) (pa_cons (pe_cmpR L2.op_lt (pe_ix ix_seq (pv 1) pe_int (fun _ _ => rfl)) (pe_ix ix_seq (pv 2) pe_int (fun _ _ => rfl)) (nomark _)) pa_nil)))))
      pss_nil)
      (pss_cons (ps_if (pt_cmpR op_eq (pv 5) pe_str (nomark _))
      (pss_cons (ps_if (PW.pt (pw_or (pt_cmpR op_ne (pe_ix ix_seq (pv 1) pe_int (fun _ _ => rfl)) pe_str (nomark _)) (pw_or1 (pt_cmpR op_eq (pe_ix ix_seq (pv 2) pe_int (fun _ _ => rfl)) pe_str (nomark _)))))
        (pss_one (ps_ret (pe_gref (g_WRONG_KIND T))))
        pss_nil)
        (pss_one (ps_ret (pe_u h_truth hr rfl (g_truth T) (pa_cons (pe_cmpR (op_inS2 (u65 hr)) (pv 2) (pe_ix ix_seq (pv 1) pe_int (fun _ _ => rfl)) rfl) pa_nil)))))
      pss_nil)
      (pss_cons (ps_if (pt_cmpR op_eq (pv 5) pe_str (nomark _))
      (pss_one (ps_ret (pe_u h_within hr rfl (g_within T) (pa_cons (pv 1) (pa_cons (pv 2) (pa_cons (pv 3) (pa_cons (pv 4) pa_nil)))))))
      pss_nil)
      (pss_one (ps_ret (pe_ifExp (pt_cmpR op_eq (pe_ix ix_seq (pv 2) pe_int (fun _ _ => rfl)) pe_str (nomark _)) (pe_tup (pa_cons pe_str (pa_cons (pv 2) pa_nil))) (pe_gref (g_WRONG_KIND T)))))))))), ?_⟩
    obtain ⟨b, z1, z2, z3, rfl, hq, h1, h2, h3⟩ := dp3 hn
    obtain rfl := dpS h1
    obtain ⟨c, y0, rfl, hc, hy0⟩ := val_hd hva
    obtain ⟨d, w0, rfl, hd, hw0⟩ := val_hd hvb
    have wrong : twoOut (tell es) wd x y = (wrongKind, none) → Q (.ref (He.ga K "WRONG_KIND")) H := fun e => by
      rw [e] at k
      exact out_none k hrs (Same.refl _) (wk_dp T H)
    have yes : ∀ (b : Bool) v H', twoOut (tell es) wd x y = (truth b, none) → Same H H' → Dp K H' v (encOut (truth b)) → Q v H' := fun b v H' e hS hv => by
      rw [e] at k
      exact out_none k hrs hS hv
    have trueIs : ∀ {x : Val}, (∃ b, x = .sc (.tr b)) ∨ valW x ≠ "truth" := by
      intro x
      by_cases h : valW x = "truth"
      · exact .inl ((valW_is rfl).1.mp h)
      · exact .inr h
    have last : wd = .and ∨ wd = .or → ∃ k0, V.bl (decide (V.str (valW y) = V.str "truth")) = V.bl k0 ∧ if k0 = true then (2 ≤ sizeLine ∧ ∀ p, H p = none → Q (.ref p) (upd H p (.tup [.str "value", .ref d]))) else Q (.ref (He.ga K "WRONG_KIND")) H := fun hw => by
      refine ⟨_, rfl, ?_⟩
      rcases trueIs (x := y) with ⟨b', rfl⟩ | hy
      · refine ifT (by simp [valW, scW]) ⟨by decide, fun p hp => yes b' _ _ ?_ (same_new hp) (dp_new hp (.cons (.str _) (.cons hvb .nil)))⟩
        rcases hw with rfl | rfl <;> rfl
      · refine ifF (by simp [hy]) (wrong ?_)
        have hy' : ∀ b, y ≠ .sc (.tr b) := fun b e => hy (by rw [e]; rfl)
        rcases hw with rfl | rfl <;> (unfold twoOut; simp only [Prod.mk.injEq, and_true]; try (split <;> first | exact absurd rfl (hy' _) | rfl))
    cases wd with
    | same =>
      refine ⟨_, rfl, rixT hq rfl ⟨_, rfl, rfl, _, rfl, ifT (by decide +kernel) ⟨_, rfl, _, rfl, encVal x, encVal y, hva, hvb, shp_val hgx, shp_val hgy, _, rfl, fun v H' hS hv => ?_⟩⟩⟩
      rw [eqv_val] at hv
      exact yes (decide (x = y)) v H' rfl hS hv
    | less =>
      refine ⟨_, rfl, rixT hq rfl ⟨_, rfl, rfl, _, rfl, ifF (by decide +kernel) ⟨_, rfl, rfl, _, rfl, ifT (by decide +kernel) ?_⟩⟩⟩
      by_cases h1 : valW x = "number"
      · obtain ⟨i1, rfl⟩ := (valW_is rfl).2.1.mp h1
        obtain rfl := dpI hy0
        replace hc : SqT K H c [.str "number", .int i1] := hc
        refine ⟨_, rfl, rixT hc rfl ⟨rfl, _, rfl, ifF (by decide +kernel) ?_⟩⟩
        by_cases h2 : valW y = "number"
        · obtain ⟨i2, rfl⟩ := (valW_is rfl).2.1.mp h2
          obtain rfl := dpI hw0
          replace hd : SqT K H d [.str "number", .int i2] := hd
          refine ⟨_, rfl, rixT hd rfl ⟨rfl, _, rfl, ifF (by decide +kernel) ?_⟩⟩
          refine ⟨_, rfl, rixT hc rfl ⟨_, rfl, rixT hd rfl ⟨_, _, rfl, rfl, _, rfl, fun v H' hS hv => yes _ v H' rfl hS hv⟩⟩⟩
        · refine ⟨_, rfl, rixT hd rfl ⟨rfl, _, rfl, ifT (by simp [h2]) (wrong ?_)⟩⟩
          unfold twoOut
          simp only [Prod.mk.injEq, and_true]
          split
          · exact absurd rfl h2
          · rfl
      · refine ⟨_, rfl, rixT hc rfl ⟨rfl, _, rfl, ifT (by simp [h1]) (wrong ?_)⟩⟩
        unfold twoOut
        simp only [Prod.mk.injEq, and_true]
        split
        · exact absurd rfl h1
        · rfl
    | contains =>
      refine ⟨_, rfl, rixT hq rfl ⟨_, rfl, rfl, _, rfl, ifF (by decide +kernel) ⟨_, rfl, rfl, _, rfl, ifF (by decide +kernel) ⟨_, rfl, rfl, _, rfl, ifT (by decide +kernel) ?_⟩⟩⟩⟩
      by_cases h1 : valW x = "set"
      · obtain ⟨l, rfl⟩ := (valW_is rfl).2.2.mp h1
        obtain ⟨b2, xs, rfl, hb2, hxs⟩ := dp_tup hy0
        replace hc : SqT K H c [.str "set", .ref b2] := hc
        refine ⟨_, rfl, rixT hc rfl ⟨rfl, _, rfl, ifF (by decide +kernel) ?_⟩⟩
        by_cases h2 : valW y = "set"
        · refine ⟨_, rfl, rixT hd rfl ⟨rfl, _, rfl, ifT (by simp [h2]) (wrong ?_)⟩⟩
          obtain ⟨l2, rfl⟩ := (valW_is rfl).2.2.mp h2
          rfl
        · refine ⟨_, rfl, rixT hd rfl ⟨rfl, _, rfl, ifF (by simp [h2]) ?_⟩⟩
          cases y with
          | st l2 => exact absurd rfl h2
          | sc s0 =>
            have hshl : SeqAt.shaped (.list (l.map encScal)) = true := by
              refine shp (by simp only [PyData.canLay0]; exact lay_all fun r hr => lay_scal (hgx.2.1 r hr)) ?_
              have := dep_all (f := encScal) (l := l) (n := 1) fun x _ => Nat.le_of_eq (dep_scal x)
              simp only [PyData.depth]
              omega
            refine ⟨_, rfl, _, rfl, rixT hc rfl ⟨encScal s0, l.map encScal, hvb, .inr hy0, shp (lay_scal hgy) (by rw [dep_scal]; decide), hshl, _, rfl, fun v H' hS hv => ?_⟩⟩
            rw [any_eqv eqv_scal] at hv
            exact yes (decide (s0 ∈ l)) v H' rfl hS hv
      · refine ⟨_, rfl, rixT hc rfl ⟨rfl, _, rfl, ifT (by simp [h1]) (wrong ?_)⟩⟩
        unfold twoOut
        simp only [Prod.mk.injEq, and_true]
        split
        · exact absurd rfl h1
        · rfl
    | isin =>
      refine ⟨_, rfl, rixT hq rfl ⟨_, rfl, rfl, _, rfl, ifF (by decide +kernel) ⟨_, rfl, rfl, _, rfl, ifF (by decide +kernel) ⟨_, rfl, rfl, _, rfl, ifF (by decide +kernel) ⟨_, rfl, rfl, _, rfl, ifT (by decide +kernel) ?_⟩⟩⟩⟩⟩
      exact ⟨_, rfl, _, rfl, _, rfl, _, rfl, _, _, a, es, rl, rs, x, y, rfl, hva, hvb, hgx, hgy, hdb, hrs, hlen, k⟩
    | and =>
      refine ⟨_, rfl, rixT hq rfl ⟨_, rfl, rfl, _, rfl, ifF (by decide +kernel) ⟨_, rfl, rfl, _, rfl, ifF (by decide +kernel) ⟨_, rfl, rfl, _, rfl, ifF (by decide +kernel) ⟨_, rfl, rfl, _, rfl, ifF (by decide +kernel) ?_⟩⟩⟩⟩⟩
      obtain ⟨k0, e, h⟩ := last (.inl rfl)
      refine ⟨_, rfl, rixT hd rfl ⟨rfl, k0, e, ?_⟩⟩
      cases k0 with
      | true => exact ifT rfl ⟨_, rfl, h⟩
      | false => exact ifF rfl h
    | or =>
      refine ⟨_, rfl, rixT hq rfl ⟨_, rfl, rfl, _, rfl, ifF (by decide +kernel) ⟨_, rfl, rfl, _, rfl, ifF (by decide +kernel) ⟨_, rfl, rfl, _, rfl, ifF (by decide +kernel) ⟨_, rfl, rfl, _, rfl, ifF (by decide +kernel) ?_⟩⟩⟩⟩⟩
      obtain ⟨k0, e, h⟩ := last (.inr rfl)
      refine ⟨_, rfl, rixT hd rfl ⟨rfl, k0, e, ?_⟩⟩
      cases k0 with
      | true => exact ifT rfl ⟨_, rfl, h⟩
      | false => exact ifF rfl h
theorem ok_is_passed_on (T : Top w K mg) : O_is_passed_on P w K mg base := by
  refine mk_ok (f_is_passed_on T) sc_is_passed_on rfl rfl (fun _ _ _ _ _ _ us hl => match us, hl with | [_, _, _], _ => rfl) (fun vs H Q E h => ?_) (fun f cdv A outer s H vs Q E hr h => ?_)
  · obtain ⟨v, nd, x, n, rfl, _⟩ := h
    rfl
  · obtain ⟨v, nd, x, n, rfl, hv, hg, k⟩ := h
    have sc := sc_is_passed_on
    refine ⟨_, (pss_cons (ps_if (pt_cmpR op_eq (pv 0) pe_str (nomark _))
      (pss_one (ps_ret (pe_cmpR op_gt (pv 1) pe_int (nomark _))))
      pss_nil)
      (pss_cons (ps_if (pt_cmpR op_gt (pv 1) pe_int (nomark _))
      (pss_one (ps_ret pe_bl))
      pss_nil)
      (pss_one (ps_ret (pe_ifExp (pt_cmpR op_eq (pv 0) pe_str (nomark _)) (pe_cmpR (op_eqD (u64 hr)) (pv 2) (pe_gref (g_NO T)) (nomark _)) (pe_and (pe_cmpR op_eq (pv 0) pe_str (nomark _)) (pe_one (pe_cmpR (op_eqD (u64 hr)) (pv 2) (pe_gref (g_YES T)) (nomark _))))))))), ?_⟩
    have fin : ∀ b, passedOn nd n x = b → Q (.bl b) H := fun b e => by rw [← e]; exact k
    have hpos : decide ((0 : Int) < (n : Int)) = decide (0 < n) := by simp
    have other : nodeW nd ≠ "if" → nodeW nd ≠ "and" → nodeW nd ≠ "or" → passedOn nd n x = false := fun h1 h2 h3 => by
      cases nd with
      | ite _ _ _ => exact absurd rfl h1
      | two w _ _ => cases w <;> first | exact absurd rfl h2 | exact absurd rfl h3 | rfl
      | _ => rfl
    by_cases h1 : nodeW nd = "if"
    · have hn : ∃ a b c, nd = .ite a b c := by
        cases nd with
        | ite a b c => exact ⟨a, b, c, rfl⟩
        | two w _ _ => cases w <;> exact absurd h1 (by simp only [nodeW, Two.w]; decide +kernel)
        | one w _ _ => cases w <;> exact absurd h1 (by simp only [nodeW, One.w]; decide +kernel)
        | _ => exact absurd h1 (by simp only [nodeW]; decide +kernel)
      obtain ⟨a, b, c, rfl⟩ := hn
      refine ⟨_, rfl, rfl, _, rfl, ifT (by simp [nodeW]) ⟨_, rfl, _, _, rfl, rfl, fin _ ?_⟩⟩
      simp [passedOn]
    · refine ⟨_, rfl, rfl, _, rfl, ifF (by simp [h1]) ⟨_, rfl, _, _, rfl, rfl, _, rfl, ?_⟩⟩
      refine ifB (fun hp => fin _ ?_) (fun hp => ?_)
      · have hp' : 0 < n := by simpa using hp
        cases nd with
        | ite _ _ _ => exact absurd rfl h1
        | two w _ _ => cases w <;> simp [passedOn] <;> omega
        | _ => rfl
      · have hp' : n = 0 := by have : ¬ 0 < n := by simpa using hp
                               omega
        subst hp'
        by_cases h2 : nodeW nd = "and"
        · have hn : ∃ a b, nd = .two .and a b := by
            cases nd with
            | two w a b => cases w <;> first | exact ⟨a, b, rfl⟩ | exact absurd h2 (by simp only [nodeW, Two.w]; decide +kernel)
            | one w _ _ => cases w <;> exact absurd h2 (by simp only [nodeW, One.w]; decide +kernel)
            | _ => exact absurd h2 (by simp only [nodeW]; decide +kernel)
          obtain ⟨a, b, rfl⟩ := hn
          refine ⟨_, rfl, rfl, _, rfl, ifT (by simp [nodeW, Two.w]) ⟨_, rfl, encVal x, encVal (.sc (.tr false)), hv, no_dp T H, shp_val hg, shp_val trivial, fin _ ?_⟩⟩
          rw [eqv_val]
          simp [passedOn]
        · refine ⟨_, rfl, rfl, _, rfl, ifF (by simp [h2]) ⟨_, rfl, rfl, _, rfl, ?_⟩⟩
          by_cases h3 : nodeW nd = "or"
          · have hn : ∃ a b, nd = .two .or a b := by
              cases nd with
              | two w a b => cases w <;> first | exact ⟨a, b, rfl⟩ | exact absurd h3 (by simp only [nodeW, Two.w]; decide +kernel)
              | one w _ _ => cases w <;> exact absurd h3 (by simp only [nodeW, One.w]; decide +kernel)
              | _ => exact absurd h3 (by simp only [nodeW]; decide +kernel)
            obtain ⟨a, b, rfl⟩ := hn
            refine ifT (by simp [nodeW, Two.w]) ⟨_, rfl, encVal x, encVal (.sc (.tr true)), hv, yes_dp T H, shp_val hg, shp_val trivial, fin _ ?_⟩
            rw [eqv_val]
            simp [passedOn]
          · exact ifF (by simp [h3]) (fin false (other h1 h2 h3))
end
end FF
set_option Elab.async false
set_option linter.all false
set_option maxRecDepth 100000
set_option maxHeartbeats 4000000
namespace FF
open PySem PySem.Spec PyProof.Rows L2
local macro_rules | `(tactic| walk_at "r") => `(tactic| repeat (first
   | refine ⟨_, rfl, ?_⟩
   | refine ⟨_, _, rfl, rfl, ?_⟩
   | refine ⟨rfl, ?_⟩
   | refine rixT (by assumption) rfl ?_
   | refine rixL (by assumption) rfl ?_
   | refine ifT (by decide +kernel) ?_
   | refine ifF (by decide +kernel) ?_))
section
variable {P : Program} {w : World} {K : PySem.W.Frag} {mg : Str → Option Value} {base : Heap}

theorem dp_but {H H' : Hp} {x a : Addr} {ys : List V} {ds : List PyData} (hB : But x H H') (hx : H x = some (.lst ys)) (hn : a ≠ x) (hd : noLs ds = true) (h : Dp K H (.ref a) (.list ds)) : Dp K H' (.ref a) (.list ds) := by
  obtain ⟨a', xs, e, h1, h2⟩ := dp_lst h
  cases e
  exact .lst (hB.lst hn h1) (dpAll_tps (hB.tps hx) hd h2)
theorem db_but {H H' : Hp} {x a : Addr} {ys : List V} {es : List Ent} (hB : But x H H') (hx : H x = some (.lst ys)) (h : DbAt K H a es) : DbAt K H' a es := by
  obtain ⟨⟨dx, t, kvs, h1, h2, h3, h4⟩, hok⟩ := h
  have ha : a ≠ x := by rintro rfl; rw [hx] at h1; cases h1
  have ht : t ≠ x := by rintro rfl; rw [hx] at h2; cases h2
  exact ⟨⟨dx, t, kvs, hB _ _ ha h1, hB _ _ ht h2, h3, dpAll_tps (hB.tps hx) (noLs_ents _) h4⟩, hok⟩
theorem noLs_ovs (l : List (Option Val)) : noLs (l.map encOV) = true := noLs_map (fun x => by cases x with | none => rfl | some v => exact noL_val v) l
theorem noLs_ints (l : List Nat) : noLs (encInts l) = true := noLs_map (fun _ => rfl) l
theorem Tps.trans' {H1 H2 H3 : Hp} (a : Tps H1 H2) (b : Tps H2 H3) : Tps H1 H3 := fun c ys h => b c ys (a c ys h)
theorem dp_butT {H H' : Hp} {x a : Addr} {ds : List PyData} (hB : But x H H') (tp : Tps H H') (hn : a ≠ x) (hd : noLs ds = true) (h : Dp K H (.ref a) (.list ds)) : Dp K H' (.ref a) (.list ds) := by
  obtain ⟨a', xs, e, h1, h2⟩ := dp_lst h
  cases e
  exact .lst (hB.lst hn h1) (dpAll_tps tp hd h2)
theorem db_butT {H H' : Hp} {x a : Addr} {es : List Ent} (hB : But x H H') (tp : Tps H H') (ha : a ≠ x) (hx : ∀ kvs, H x ≠ some (.dK kvs)) (h : DbAt K H a es) : DbAt K H' a es := by
  obtain ⟨⟨dx, t, kvs, h1, h2, h3, h4⟩, hok⟩ := h
  have ht : t ≠ x := by rintro rfl; exact hx _ h2
  exact ⟨⟨dx, t, kvs, hB _ _ ha h1, hB _ _ ht h2, h3, dpAll_tps tp (noLs_ents _) h4⟩, hok⟩
/-- an instance has changed, lists are new, nothing else -/
def InsR (p : Addr) (X Y : Hp) : Prop := Tps X Y ∧ But p X Y
theorem InsR.refl (p : Addr) (X : Hp) : InsR p X X := ⟨fun _ _ h => h, But.refl _ _⟩
theorem InsR.trans {p : Addr} {X Y Z : Hp} (a : InsR p X Y) (b : InsR p Y Z) : InsR p X Z := ⟨Tps.trans' a.1 b.1, a.2.trans b.2⟩
theorem InsR.same {p : Addr} {X Y Z : Hp} (a : InsR p X Y) (b : Same Y Z) : InsR p X Z := a.trans ⟨FF.Same.tps b, But.of b⟩
theorem ins_put {H1 H2 : Hp} {p dx C : Addr} {f : Str} {y : V} {fs fs' : List (Str × V)} (h : H1 p = some (.ins C dx fs)) (e : upd H1 p (.ins C dx (putF f y fs)) = H2) (e2 : putF f y fs = fs' := by rfl) : H2 p = some (.ins C dx fs') ∧ InsR p H1 H2 := by
  subst e
  subst e2
  refine ⟨upd_same, fun c ys hc => ?_, (But.refl p H1).put⟩
  have hne : c ≠ p := by
    rintro rfl
    rcases hc with hc | ⟨o, hc⟩
    · rw [h] at hc; cases hc
    · rw [h] at hc; cases hc
  rcases hc with hc | ⟨o, hc⟩
  · exact .inl (by rw [upd_ne hne]; exact hc)
  · exact .inr ⟨o, by rw [upd_ne hne]; exact hc⟩
theorem dp_nonesV (H : Hp) : ∀ n : Nat, DpAll K H (List.replicate n V.non) ((List.replicate n (none : Option Val)).map encOV)
  | 0 => .nil
  | n + 1 => .cons .non (dp_nonesV H n)
section
variable {H H' : Hp} {wk a vl rd : Addr} {e : List Node} {rq : Req} {es : List Ent} {vals : Vals'} {rs : List Read}
theorem wk_same (hS : Same H H') (W : WkAt K H wk e rq a es vl vals rd rs) : WkAt K H' wk e rq a es vl vals rd rs := by
  obtain ⟨⟨dx, ve, vq, rl, sl, h1, h2, h3, h4, h5, h6⟩, hdb, ⟨xs, g1, g2⟩, hrs, c1, c2, c3, c4, c5, c6, c7⟩ := W
  exact ⟨⟨dx, ve, vq, rl, sl, hS _ _ h1, dp_same hS h2, dp_same hS h3, dp_same hS h4, dp_same hS h5, h6⟩, db_same hS hdb, ⟨xs, hS _ _ g1, dpAll_same hS g2⟩, rds_same hS hrs, c1, c2, c3, c4, c5, c6, c7⟩
/-- the reads have grown -/
theorem wk_rds {rs' : List Read} (hB : But rd H H') (hr : RdsAt K H' rd rs') (W : WkAt K H wk e rq a es vl vals rd rs) : WkAt K H' wk e rq a es vl vals rd rs' := by
  obtain ⟨⟨dx, ve, vq, rl, sl, h1, h2, h3, h4, h5, n1, n2, n3, n4, n5⟩, hdb, ⟨xs, g1, g2⟩, ⟨r1, r2, zs, r3, r4⟩, c1, c2, c3, c4, c5, c6, c7⟩ := W
  have tp := hB.tps r3
  have hw : wk ≠ rd := by rintro rfl; rw [r3] at h1; cases h1
  exact ⟨⟨dx, ve, vq, rl, sl, hB _ _ hw h1, dp_tps tp (noL_expr _) h2, dp_tps tp (noL_req _) h3, dp_but hB r3 n2 (noLs_roles _) h4, dp_but hB r3 n4 (noLs_ints _) h5, n1, n2, n3, n4, n5⟩,
    db_but hB r3 hdb, ⟨xs, hB _ _ n5 g1, dpAll_tps tp (noLs_ovs _) g2⟩, hr, c1, c2, c3, c4, c5, c6, c7⟩
/-- a value is put -/
theorem wk_put {k : Nat} {x : Val} {v : V} (hx : ValGood x) (hv : Dp K H v (encVal x)) (W : WkAt K H wk e rq a es vl vals rd rs) : ∃ xs, H vl = some (.lst xs) ∧ xs.length = e.length ∧ WkAt K (upd H vl (.lst (xs.set k v))) wk e rq a es vl (vals.set k (some x)) rd rs := by
  obtain ⟨⟨dx, ve, vq, rl, sl, h1, h2, h3, h4, h5, n1, n2, n3, n4, n5⟩, hdb, ⟨xs, g1, g2⟩, ⟨r1, r2, zs, r3, r4⟩, c1, c2, c3, c4, c5, c6, c7⟩ := W
  have hB : But vl H (upd H vl (.lst (xs.set k v))) := (But.refl vl H).put
  have tp := hB.tps g1
  have hw : wk ≠ vl := by rintro rfl; rw [g1] at h1; cases h1
  refine ⟨xs, g1, by rw [dpAll_len g2, List.length_map, c4], ⟨⟨dx, ve, vq, rl, sl, hB _ _ hw h1, dp_tps tp (noL_expr _) h2, dp_tps tp (noL_req _) h3, dp_but hB g1 n1 (noLs_roles _) h4, dp_but hB g1 n3 (noLs_ints _) h5, n1, n2, n3, n4, n5⟩,
    db_but hB g1 hdb, ⟨_, upd_same, ?_⟩, ⟨r1, r2, zs, hB _ _ (Ne.symm n5) r3, dpAll_tps tp (noLs_reads _) r4⟩, c1, c2, ?_, ?_, c5, c6, c7⟩⟩
  · rw [List.map_set]
    exact dpAll_set k (dpAll_tps tp (noLs_ovs _) g2) (dp_tps tp (noL_val _) hv)
  · intro j y hj
    rw [List.getD_eq_getElem?_getD] at hj
    by_cases hjk : k = j
    · subst hjk
      rw [List.getElem?_set] at hj
      simp only [if_true] at hj
      split at hj
      · cases hj; exact hx
      · cases hj
    · rw [List.getElem?_set_ne hjk, ← List.getD_eq_getElem?_getD] at hj
      exact c3 j y hj
  · rw [List.length_set]; exact c4
end
theorem tell_good {es : List Ent} (hok : DbOk es) {r : Read} {v : Val} (h : tell es r = .value v) : ValGood v := by
  cases r with
  | anc u => cases h
  | attr u n =>
    unfold tell at h
    simp only at h
    cases hf : find es u with
    | none => rw [hf] at h; cases h
    | some en =>
      rw [hf] at h
      simp only at h
      cases hn : valNamed en.attrs n with
      | none => rw [hn] at h; cases h
      | some x =>
        rw [hn] at h
        cases h
        unfold valNamed at hn
        cases hq : en.attrs.find? (fun q => decide (q.1 = n)) with
        | none => rw [hq] at hn; cases hn
        | some q =>
          rw [hq] at hn
          cases hn
          exact (hok.good en (find_mem hf).1).attrs.vals q (List.mem_of_find?_eq_some hq)
theorem named_good {l : List (Str × Val)} (h : ∀ q ∈ l, ValGood q.2) {n : Str} {x : Val} (hn : valNamed l n = some x) : ValGood x := by
  unfold valNamed at hn
  cases hq : l.find? (fun q => decide (q.1 = n)) with
  | none => rw [hq] at hn; cases hn
  | some q =>
    rw [hq] at hn
    cases hn
    exact h q (List.mem_of_find?_eq_some hq)
theorem truth_good {b : Bool} {v : Val} (h : truth b = .value v) : ValGood v := by cases h; trivial
theorem one_good {es : List Ent} (hok : DbOk es) {w : One} {n : Str} {x v : Val} (h : (oneOut (tell es) w n x).1 = .value v) : ValGood v := by
  unfold oneOut at h
  split at h
  · cases w with
    | is_ => exact truth_good h
    | has => exact truth_good h
    | get =>
      simp only at h
      split at h
      · rename_i z ht
        cases h
        exact tell_good hok ht
      · cases h
      · cases h
  · cases h
theorem two_good {tl : Read → Told} {w : Two} {x y v : Val} (hy : ValGood y) (h : (twoOut tl w x y).1 = .value v) : ValGood v := by
  cases w with
  | same => exact truth_good h
  | less => unfold twoOut at h; simp only at h; split at h <;> first | exact truth_good h | cases h
  | contains => unfold twoOut at h; simp only at h; split at h <;> first | exact truth_good h | cases h
  | isin =>
    have h' : (inOut tl x y).1 = .value v := h
    unfold inOut at h'
    split at h'
    · split at h'
      · exact truth_good h'
      · split at h'
        · exact truth_good h'
        · exact truth_good h'
    · cases h'
  | and => unfold twoOut at h; simp only at h; split at h <;> first | exact truth_good h | cases h
  | or => unfold twoOut at h; simp only at h; split at h <;> first | exact truth_good h | cases h
theorem out_good {es : List Ent} {rq : Req} {vals : Vals'} {nd : Node} {v : Val} (hok : DbOk es) (hg : ∀ (k : Nat) (v : Val), vals.getD k none = some v → ValGood v) (hl : ∀ v, nd = Node.value v → ValGood v) (hq : ∀ q ∈ rq.ctx, ValGood q.2)
    (hu : isUid rq.p = true ∧ isUid rq.a = true ∧ isUid rq.r = true) (h : (nodeOut (tell es) rq vals nd).1 = .value v) : ValGood v := by
  cases nd with
  | value x => cases h; exact hl _ rfl
  | prin => cases h; exact hu.1
  | act => cases h; exact hu.2.1
  | res => cases h; exact hu.2.2
  | ctx n =>
    have h' : leafOut rq (.ctx n) = .value v := h
    unfold leafOut at h'
    simp only at h'
    cases hn : valNamed rq.ctx n with
    | none => rw [hn] at h'; cases h'
    | some x => rw [hn] at h'; cases h'; exact named_good hq hn
  | given n => exact truth_good h
  | one w i n =>
    unfold nodeOut at h
    simp only at h
    split at h
    · exact one_good hok h
    · cases h
  | not_ i =>
    unfold nodeOut at h
    simp only at h
    split at h
    · rename_i x _
      cases x with
      | sc s => cases s <;> first | exact truth_good h | cases h
      | st l => cases h
    · cases h
  | two w i j =>
    unfold nodeOut at h
    simp only at h
    split at h
    · rename_i x y h1 h2
      exact two_good (hg _ _ h2) h
    · cases h
  | ite i j k => cases h
theorem ok_Walk_init (T : Top w K mg) (h_roles : O_roles P w K mg base) (h_starts : O_starts P w K mg base) : O_Walk_init P w K mg base := by
  refine mk_ok (f_Walk___init__ T) sc_Walk___init__ rfl rfl (fun _ _ _ _ _ _ us hl => match us, hl with | [_, _, _, _], _ => rfl) (fun vs H Q E h => ?_) (fun f cdv A outer s H vs Q E hr h => ?_)
  · obtain ⟨p, dx, ve, vq, a, es, e, rq, rfl, _⟩ := h
    rfl
  · obtain ⟨p, dx, ve, vq, a, es, e, rq, rfl, hp, he, hq, hdb, hok, hel, hgl, hgq, hgu, k⟩ := h
    have sc := sc_Walk___init__
    refine ⟨_, (pss_cons (ps_fld (pv 0) (pv 1) rfl)
      (pss_cons (ps_fld (pv 0) (pv 2) rfl)
      (pss_cons (ps_fld (pv 0) (pv 3) rfl)
      (pss_cons (ps_fld (pv 0) (pe_u h_roles hr rfl (g_roles T) (pa_cons (pv 1) pa_nil)) rfl)
      (pss_cons (ps_fld (pv 0) (pe_u h_starts hr rfl (g_starts T) (pa_cons (pv 1) pa_nil)) rfl)
      (pss_cons (ps_fld (pv 0) (pe_op op_rep (pe_lst (pa_cons pe_non pa_nil)) (pe_callB call_len (by rfl) (n_len T) PySem.boot_len (pa_cons (pv 1) pa_nil))) rfl)
      (pss_one (ps_fld (pv 0) (pe_lst pa_nil) rfl)))))))), ?_⟩
    have hops : OpsLt e := fun k nd hk o ho => (FF.op_lt hok.wf hk ho).1
    have hap : a ≠ p := by
      obtain ⟨⟨dx', t, kvs, h1, _⟩, _⟩ := hdb
      rintro rfl
      rw [h1] at hp
      injection Option.some.inj hp with _ _ e3
      cases e3
    have hC := cl_Walk T
    refine ⟨_, rfl, _, rfl, p, _, dx, [], rfl, hp, hC, na_Walk_expression T, by show 0 < 1000; decide, ?_⟩
    generalize hH1 : upd _ _ _ = H1
    obtain ⟨p1, r1⟩ := ins_put (fs' := [("_expression", ve)]) hp hH1
    refine ⟨_, rfl, _, rfl, p, _, dx, _, rfl, p1, hC, na_Walk_request T, by show 1 < 1000; decide, ?_⟩
    generalize hH2 : upd _ _ _ = H2
    obtain ⟨p2, r2⟩ := ins_put (fs' := [("_expression", ve), ("_request", vq)]) p1 hH2
    refine ⟨_, rfl, _, rfl, p, _, dx, _, rfl, p2, hC, na_Walk_source T, by show 2 < 1000; decide, ?_⟩
    generalize hH3 : upd _ _ _ = H3
    obtain ⟨p3, r3⟩ := ins_put (fs' := [("_expression", ve), ("_request", vq), ("_source", .ref a)]) p2 hH3
    have r03 := (r1.trans r2).trans r3
    refine ⟨_, rfl, ve, e, rfl, dp_tps r03.1 (noL_expr _) he, hops, hel, fun rl H4 rx hS4 hrl0 hrl hrx => ?_⟩
    have p4 := hS4 _ _ p3
    have r04 := r03.same hS4
    refine ⟨_, rfl, p, _, dx, _, rfl, p4, hC, na_Walk_roles T, by show 3 < 1000; decide, ?_⟩
    generalize hH5 : upd _ _ _ = H5
    obtain ⟨p5, r5⟩ := ins_put (fs' := [("_expression", ve), ("_request", vq), ("_source", .ref a), ("_roles", .ref rl)]) p4 hH5
    have r05 := r04.trans r5
    refine ⟨_, rfl, ve, e, rfl, dp_tps r05.1 (noL_expr _) he, hops, hel, fun sl H6 sx hS6 hsl0 hsl hsx => ?_⟩
    have p6 := hS6 _ _ p5
    have r06 := r05.same hS6
    refine ⟨_, rfl, p, _, dx, _, rfl, p6, hC, na_Walk_starts T, by show 4 < 1000; decide, ?_⟩
    generalize hH7 : upd _ _ _ = H7
    obtain ⟨p7, r7⟩ := ins_put (fs' := [("_expression", ve), ("_request", vq), ("_source", .ref a), ("_roles", .ref rl), ("_starts", .ref sl)]) p6 hH7
    have r07 := r06.trans r7
    obtain ⟨b, es', eb, hq', hx'⟩ := dp_tup (dp_tps r07.1 (noL_expr _) he)
    have hxl := enc_len hx'
    refine ⟨by show 1 ≤ sizeLine; decide, fun L0 hL0 => ?_⟩
    have hS8 := same_new (o := HO.lst [V.non]) hL0
    generalize hH8 : upd _ _ _ = H8 at hS8
    have hL08 : H8 L0 = some (.lst [.non]) := by rw [← hH8]; exact upd_same
    refine ⟨_, rfl, _, es'.length, rfl, by rw [eb]; exact lenT (sqT_same hS8 hq'), L0, _, _, rfl, rfl, hL08, by omega, by omega, szl (by simp; omega), fun L hL => ?_⟩
    have hS9 := same_new (o := HO.lst (List.replicate ((es'.length : Nat) : Int).toNat [V.non]).flatten) hL
    have hL9 : upd H8 L (HO.lst (List.replicate ((es'.length : Nat) : Int).toNat [V.non]).flatten) L = _ := upd_same
    generalize hH9 : upd _ _ _ = H9 at hS9 hL9
    rw [Int.toNat_natCast, rep_flat, hxl] at hL9
    have p9 := hS9 _ _ (hS8 _ _ p7)
    have r79 : InsR p H7 H9 := (InsR.refl p H7).same (hS8.trans hS9)
    refine ⟨_, rfl, p, _, dx, _, rfl, p9, hC, na_Walk_values T, by show 5 < 1000; decide, ?_⟩
    generalize hH10 : upd _ _ _ = H10
    obtain ⟨p10, r10⟩ := ins_put (fs' := [("_expression", ve), ("_request", vq), ("_source", .ref a), ("_roles", .ref rl), ("_starts", .ref sl), ("_values", .ref L)]) p9 hH10
    refine ⟨Nat.zero_le _, fun rd hrd => ?_⟩
    have hS11 := same_new (o := HO.lst []) hrd
    have hrd11 : upd H10 rd (HO.lst []) rd = _ := upd_same
    generalize hH11 : upd _ _ _ = H11 at hS11 hrd11
    have p11 := hS11 _ _ p10
    refine ⟨_, rfl, p, _, dx, _, rfl, p11, hC, na_Walk_reads T, by show 6 < 1000; decide, ?_⟩
    generalize hH12 : upd _ _ _ = H12
    obtain ⟨p12, r12⟩ := ins_put (fs' := [("_expression", ve), ("_request", vq), ("_source", .ref a), ("_roles", .ref rl), ("_starts", .ref sl), ("_values", .ref L), ("reads", .ref rd)]) p11 hH12
    have rF : InsR p H10 H12 := ((InsR.refl p H10).same hS11).trans r12
    have r9F : InsR p H9 H12 := r10.trans rF
    have r7F : InsR p H7 H12 := r79.trans r9F
    have r6F : InsR p H6 H12 := r7.trans r7F
    have r4F : InsR p H4 H12 := (r5.same hS6).trans r6F
    have r0F : InsR p H H12 := r07.trans r7F
    have nrl : rl ≠ p := fun e => by rw [e, p3] at hrl0; cases hrl0
    have nsl : sl ≠ p := fun e => by rw [e, p5] at hsl0; cases hsl0
    have nL : L ≠ p := fun e => by rw [e] at hL; rw [hS8 _ _ p7] at hL; cases hL
    have nrd : rd ≠ p := fun e => by rw [e, p10] at hrd; cases hrd
    have rl8 : H8 rl = some (.lst rx) := hS8 _ _ (r7.2 _ _ nrl (hS6 _ _ (r5.2 _ _ nrl hrl)))
    have sl8 : H8 sl = some (.lst sx) := hS8 _ _ (r7.2 _ _ nsl hsl)
    have r89 : InsR p H8 H10 := ((InsR.refl p H8).same hS9).trans r10
    have rl10 := r89.2 _ _ nrl rl8
    have sl10 := r89.2 _ _ nsl sl8
    have L10 := r10.2 _ _ nL hL9
    have hLH : H L = none := by
      cases q : H L with
      | none => rfl
      | some u => rw [hS8 _ _ (r07.2 _ _ nL q)] at hL; cases hL
    have hrdH : H rd = none := by
      cases q : H rd with
      | none => rfl
      | some u => rw [r10.2 _ _ nrd (hS9 _ _ (hS8 _ _ (r07.2 _ _ nrd q)))] at hrd; cases hrd
    refine k H12 L rd r0F.2 hLH hrdH ⟨⟨dx, ve, vq, rl, sl, p12, dp_tps r0F.1 (noL_expr _) he, dp_tps r0F.1 (noL_req _) hq, ?_, ?_, ?_, ?_, ?_, ?_, ?_⟩, ?_, ⟨_, r9F.2 _ _ nL hL9, ?_⟩, ⟨Nat.zero_le _, fun r hr => (nomatch hr), [], r12.2 _ _ nrd hrd11, .nil⟩, hok, hel, ?_, by simp, hgl, hgq, hgu⟩
    · exact .lst (sqN (r4F.2 _ _ nrl hrl)) (dpAll_tps r4F.1 (noLs_roles _) hrx)
    · exact .lst (sqN (r6F.2 _ _ nsl hsl)) (dpAll_tps r6F.1 (noLs_ints _) hsx)
    · intro e; rw [e] at rl8; rw [rl8] at hL; cases hL
    · intro e; rw [e] at rl10; rw [rl10] at hrd; cases hrd
    · intro e; rw [e] at sl8; rw [sl8] at hL; cases hL
    · intro e; rw [e] at sl10; rw [sl10] at hrd; cases hrd
    · intro e; rw [e] at L10; rw [L10] at hrd; cases hrd
    · exact db_butT r0F.2 r0F.1 hap (fun kvs e => by rw [hp] at e; cases e) hdb
    · exact dp_nonesV _ _
    · intro j v hj
      rw [List.getD_eq_getElem?_getD, List.getElem?_replicate] at hj
      split at hj <;> cases hj
end
end FF
set_option Elab.async false
set_option linter.all false
set_option maxRecDepth 100000
set_option maxHeartbeats 4000000
namespace FF
open PySem PySem.Spec PyProof.Rows L2
local macro_rules | `(tactic| walk_at "r") => `(tactic| repeat (first
   | refine ⟨_, rfl, ?_⟩
   | refine ⟨_, _, rfl, rfl, ?_⟩
   | refine ⟨rfl, ?_⟩
   | refine rixT (by assumption) rfl ?_
   | refine rixL (by assumption) rfl ?_
   | refine ifT (by decide +kernel) ?_
   | refine ifF (by decide +kernel) ?_))
section
variable {P : Program} {w : World} {K : PySem.W.Frag} {mg : Str → Option Value} {base : Heap}

theorem pe_fldK {X : Cx} {o : Expr} {f : Str} {pos : Pos} {ta : TE} (K : PySem.W.Frag) (hK : X.K = K) (he : PE X o ta) (hb : attributeBase o f X.env (eval o X.env) = eval o X.env) : PE X (.Attribute o f pos) (tFld K ta f) := by
  subst hK
  exact pe_fld he hb
theorem getD_some {l : Vals'} {o : Nat} {x : Val} (h : l.getD o none = some x) : l[o]? = some (some x) := by
  rw [List.getD_eq_getElem?_getD] at h
  cases q : l[o]? with
  | none => rw [q] at h; cases h
  | some y => rw [q] at h; exact congrArg some h
theorem ok_Walk_outcome (T : Top w K mg) (h_leaf : O_leaf P w K mg base) (h_one : O_one P w K mg base) (h_two : O_two P w K mg base) (h_operands : O_operands P w K mg base) : O_Walk_outcome P w K mg base := by
  refine mk_ok (f_Walk__outcome T) sc_Walk__outcome rfl rfl (fun _ _ _ _ _ _ us hl => match us, hl with | [_, _], _ => rfl) (fun vs H Q E h => ?_) (fun f cdv A outer s H vs Q E hr h => ?_)
  · obtain ⟨wk, e, rq, a, es, vl, vals, rd, rs, nd, k, rfl, _⟩ := h
    rfl
  · obtain ⟨wk, e, rq, a, es, vl, vals, rd, rs, nd, k, rfl, W, hnd, hite, hops, hlen, kk⟩ := h
    have sc := sc_Walk__outcome
    refine ⟨_, (pss_cons (ps_set (i := 2) sc.nd rfl (Or.inl rfl) (pe_ix ix_seq (pe_fld (pv 0) rfl) (pv 1) (fun _ _ => rfl)))
      (pss_cons (ps_setLc (i := 3) (own := [("place", 4)]) rfl sc.nd rfl rfl (sw_true rfl rfl rfl (by decide +kernel)) (pi_tup (pe_u h_operands hr rfl (g_operands T) (pa_cons (pv 2) pa_nil))) (blkOk_by (own := [("place", 4)]) (N := N_Walk__outcome) (sc := defScope s_Walk__outcome) (by decide +kernel)) (fun _ _ _ _ _ => (pg_name (i := 4) sc.nd rfl (Or.inl rfl))) (fun _ _ _ _ _ => pts_nil) (fun _ _ _ _ _ => (pe_ix (r := rIx K) ix_seq (pe_fldK K rfl (pv 0) rfl) (pv 4) (fun _ _ => rfl))))
      (pss_cons (ps_if (pt_not (pt_truth (pv 3) (by intro _; rfl)))
      (pss_one (ps_ret (pe_u h_leaf hr rfl (g_leaf T) (pa_cons (pv 2) (pa_cons (pe_fld (pv 0) rfl) pa_nil)))))
      pss_nil)
      (pss_cons (ps_if (pt_cmpR op_eq (pe_callB call_len (by rfl) (n_len T) PySem.boot_len (pa_cons (pv 3) pa_nil)) pe_int (nomark _))
      (pss_one (ps_ret (pe_u h_one hr rfl (g_one T) (pa_cons (pv 2) (pa_cons (pe_ix ix_seq (pv 3) pe_int (fun _ _ => rfl)) (pa_cons (pe_fld (pv 0) rfl) (pa_cons (pe_fld (pv 0) rfl) pa_nil)))))))
      pss_nil)
      (pss_one (ps_ret (pe_u h_two hr rfl (g_two T) (pa_cons (pv 2) (pa_cons (pe_ix ix_seq (pv 3) pe_int (fun _ _ => rfl)) (pa_cons (pe_ix ix_seq (pv 3) pe_int (fun _ _ => rfl)) (pa_cons (pe_fld (pv 0) rfl) (pa_cons (pe_fld (pv 0) rfl) pa_nil)))))))))))), ?_⟩
    have W0 := W
    obtain ⟨⟨dx, ve, vq, rl, sl, h1, h2, h3, h4, h5, n1, n2, n3, n4, n5⟩, hdb, ⟨xs, g1, g2⟩, hrs, c1, c2, c3, c4, c5, c6, c7⟩ := W
    have hC := cl_Walk T
    obtain ⟨b, ns, rfl, hb, hns⟩ := dp_tup h2
    obtain ⟨vn, hvn, hnd'⟩ := enc_get hns hnd
    have hmem := mem_at hnd
    have hnok := c1.nodes nd hmem
    -- the value of an operand
    have valAt : ∀ o ∈ ops nd, ∃ x v, vals.getD o none = some x ∧ xs[o]? = some v ∧ Dp K H v (encVal x) ∧ ValGood x := fun o ho => by
      obtain ⟨x, hx⟩ := hops o ho
      obtain ⟨v, hv, hd⟩ := enc_get g2 (getD_some hx)
      exact ⟨x, v, hx, hv, hd, c3 o x hx⟩
    refine ⟨_, rfl, wk, _, dx, _, _, rfl, h1, hC, na_Walk_expression T, rfl, _, rfl, rixT hb (atI_nat hvn) ?_⟩
    refine ⟨_, rfl, vn, nd, rfl, hnd', fun u H1 hS1 hu => ?_⟩
    obtain ⟨p, os, rfl, hp, hos⟩ := dp_tup hu
    obtain rfl := encInts_at hos
    have h1' := hS1 _ _ h1
    refine ⟨p, rfl, ⟨_, hp⟩, fun D hD => lc_it walk_tup (fun i H2 => Same H1 H2 ∧ H2 D = some (.lst (((ops nd).take i).map fun o => xs.getD o .non))) ⟨same_new hD, upd_same⟩ (fun _ _ _ h => sqT_same h.1 hp) ?_ ?_⟩
    · rintro i z H2 H3 hi ⟨hS2, hL⟩ ⟨rfl, hz⟩
      obtain ⟨o, ho, rfl⟩ := map_at hz
      obtain ⟨x, v, hx, hv, hd, hgx⟩ := valAt o (mem_at ho)
      refine ⟨rfl, tyes rfl ⟨_, rfl, wk, _, dx, _, _, rfl, hS2 _ _ h1', hC, na_Walk_values T, rfl, _, rfl, rixL (sqN (hS2 _ _ (hS1 _ _ g1))) (atI_nat hv) ⟨_, hL, ?_, same_mut hS2 hD, ?_⟩⟩⟩
      · rw [List.length_map, List.length_take]
        have : (ops nd).length ≤ 3 := by cases nd <;> simp [ops]
        exact szlt (by omega)
      · rw [upd_same, List.take_add_one, ho]
        simp [List.getD_eq_getElem?_getD, hv]
    · rintro H2 ⟨hS2, hL⟩
      rw [List.take_of_length_le (by rw [List.length_map]; exact Nat.le_refl _)] at hL
      have hS02 := hS1.trans hS2
      have h1'' := hS2 _ _ h1'
      have gd : ∀ (v : Val), (nodeOut (tell es) rq vals nd).1 = .value v → ValGood v := fun v hv => out_good hdb.ok c3 (fun v e => c5 nd hmem v e) c6 c7 hv
      have fin : ∀ (o : Out × Option Read), nodeOut (tell es) rq vals nd = o → outQ K rd rs o H2 Q := fun o e u H' hB hr' hu => by
        subst e
        exact kk u H' ((But.of hS02).trans hB) (wk_rds hB hr' (wk_same hS02 W0)) hu gd
      have hB : ∀ {o : Out} {u : V} {H' : Hp}, nodeOut (tell es) rq vals nd = (o, none) → Same H2 H' → Dp K H' u (encOut o) → Q u H' := fun e hS hu => out_none (fin _ e) (rds_same hS02 hrs) hS hu
      cases ho : ops nd with
      | nil =>
        rw [ho] at hL
        refine ⟨_, rfl, false, .inl ⟨_, sqN hL, rfl⟩, ifT rfl ?_⟩
        refine ⟨_, rfl, _, rfl, wk, _, dx, _, _, rfl, h1'', hC, na_Walk_request T, rfl, vn, vq, nd, rq, rfl, dp_same hS02 hnd', dp_same hS02 h3, ho, fun u H' hS hu => hB ?_ hS hu⟩
        cases nd <;> first | rfl | (simp [ops] at ho)
      | cons i r =>
        cases r with
        | nil =>
          rw [ho] at hL
          obtain ⟨x, v, hx, hv, hd, hgx⟩ := valAt i (by rw [ho]; simp)
          have ev : xs.getD i .non = v := by simp [List.getD_eq_getElem?_getD, hv]
          rw [List.map_cons, List.map_nil, ev] at hL
          refine ⟨_, rfl, true, .inl ⟨_, sqN hL, rfl⟩, ifF rfl ?_⟩
          refine ⟨_, rfl, _, _, rfl, lenL (sqN hL), rfl, _, rfl, ifT (by simp) ?_⟩
          refine ⟨_, rfl, _, rfl, rixL (sqN hL) rfl ⟨_, rfl, wk, _, dx, _, _, rfl, h1'', hC, na_Walk_source T, rfl, _, rfl, wk, _, dx, _, _, rfl, h1'', hC, na_Walk_reads T, rfl, ?_⟩⟩
          refine ⟨vn, v, a, es, rd, rs, nd, x, rfl, dp_same hS02 hnd', by rw [ho]; rfl, hnok, dp_same hS02 hd, hgx, db_same hS02 hdb, rds_same hS02 hrs, hlen, fin _ ?_⟩
          cases nd with
          | one w0 i0 n0 =>
            simp only [ops, List.cons.injEq, and_true] at ho
            subst ho
            unfold nodeOut
            simp only
            rw [hx]
            rfl
          | not_ i0 =>
            simp only [ops, List.cons.injEq, and_true] at ho
            subst ho
            unfold nodeOut
            simp only
            rw [hx]
            rfl
          | _ => simp [ops] at ho
        | cons j r =>
          cases nd with
          | two wd i0 j0 =>
            have hi0 : i0 = i ∧ j0 = j ∧ [] = r := by simpa [ops] using ho
            obtain ⟨rfl, rfl, rfl⟩ := hi0
            rw [ho] at hL
            obtain ⟨x, v, hx, hv, hd, hgx⟩ := valAt i0 (by rw [ho]; simp)
            obtain ⟨y, v', hy, hv', hd', hgy⟩ := valAt j0 (by rw [ho]; simp)
            have ev : xs.getD i0 .non = v := by simp [List.getD_eq_getElem?_getD, hv]
            have ev' : xs.getD j0 .non = v' := by simp [List.getD_eq_getElem?_getD, hv']
            rw [List.map_cons, List.map_cons, List.map_nil, ev, ev'] at hL
            refine ⟨_, rfl, true, .inl ⟨_, sqN hL, rfl⟩, ifF rfl ?_⟩
            refine ⟨_, rfl, _, _, rfl, lenL (sqN hL), rfl, _, rfl, ifF (by simp) ?_⟩
            refine ⟨_, rfl, _, rfl, rixL (sqN hL) rfl ⟨_, rfl, rixL (sqN hL) rfl ⟨_, rfl, wk, _, dx, _, _, rfl, h1'', hC, na_Walk_source T, rfl, _, rfl, wk, _, dx, _, _, rfl, h1'', hC, na_Walk_reads T, rfl, ?_⟩⟩⟩
            refine ⟨vn, v, v', a, es, rd, rs, wd, i0, j0, x, y, rfl, dp_same hS02 hnd', dp_same hS02 hd, dp_same hS02 hd', hgx, hgy, db_same hS02 hdb, rds_same hS02 hrs, hlen, fin _ ?_⟩
            unfold nodeOut
            simp only
            rw [hx, hy]
          | ite _ _ _ => cases hite
          | _ => simp [ops] at ho
theorem role_at {H : Hp} {rx : List V} {e : List Node} {k : Nat} (hk : k < e.length) (h : DpAll K H rx ((roles e).map encRole)) : ∃ v, rx[k]? = some v ∧ Dp K H v (encRole ((roles e).getD k none)) := by
  have hl : k < (roles e).length := by rw [roles_len]; exact hk
  have : (roles e)[k]? = some ((roles e).getD k none) := by
    rw [List.getD_eq_getElem?_getD, List.getElem?_eq_getElem hl]
    rfl
  exact enc_get h this
theorem node_word {H : Hp} {v : V} {nd : Node} (h : Dp K H v (encNode nd)) : ∃ a xs, v = .ref a ∧ SqT K H a xs ∧ atI xs 0 = some (.str (nodeW nd)) := by
  obtain ⟨a, xs, e, hq⟩ := node_hd h
  exact ⟨a, _, e, hq, atI_nat (j := 0) rfl⟩
def lazyW : List Str := ["and", "or", "if"]
theorem lazy_is (nd : Node) : decide (nodeW nd ∈ lazyW) = isLazy nd := by
  rw [Bool.eq_iff_iff, decide_eq_true_eq]
  cases nd with
  | two w i j => cases w <;> (simp only [nodeW, Two.w, isLazy]; decide +kernel)
  | one w i n => cases w <;> (simp only [nodeW, One.w, isLazy]; decide +kernel)
  | _ => simp only [nodeW, isLazy]; decide +kernel
theorem inV_lazy (nd : Node) : inV (.str (nodeW nd)) [.str "and", .str "or", .str "if"] = isLazy nd := (inV_strs _ lazyW).trans (lazy_is nd)
theorem truth_w (x : Val) : (!decide (V.str (valW x) = V.str "truth")) = !isTruth x := by
  have h : (valW x = "truth") ↔ isTruth x = true := by
    cases x with
    | sc s => cases s <;> simp only [valW, scW, isTruth] <;> decide +kernel
    | st l => simp only [valW, isTruth] <;> decide +kernel
  by_cases q : valW x = "truth"
  · rw [h.mp q]; simp [q]
  · have : isTruth x = false := by
      cases e : isTruth x with
      | true => exact absurd (h.mpr e) q
      | false => rfl
    rw [this]; simp [q]
theorem ok_Walk_settle (T : Top w K mg) (h_is_passed_on : O_is_passed_on P w K mg base) : O_Walk_settle P w K mg base := by
  refine mk_ok (f_Walk__settle T) sc_Walk__settle rfl rfl (fun _ _ _ _ _ _ us hl => match us, hl with | [_, _], _ => rfl) (fun vs H Q E h => ?_) (fun f cdv A outer s H vs Q E hr h => ?_)
  · obtain ⟨wk, e, rq, a, es, vl, vals, rd, rs, k, rfl, _⟩ := h
    rfl
  · obtain ⟨wk, e, rq, a, es, vl, vals, rd, rs, k, rfl, W, hk, hv, kk⟩ := h
    have sc := sc_Walk__settle
    refine ⟨_, (pss_cons (ps_while PassesOwn.never (pt_cmpR op_notN (pe_ix ix_seq (pe_fld (pv 0) rfl) (pv 1) (fun _ _ => rfl)) pe_non (nomark _))
      (pss_cons (ps_asg (pe_ix ix_seq (pe_fld (pv 0) rfl) (pv 1) (fun _ _ => rfl)) (pg_tup rfl (pgs_cons (pg_name (i := 2) sc.nd rfl (Or.inl rfl)) (pgs_cons (pg_name (i := 3) sc.nd rfl (Or.inl rfl)) pgs_nil))))
        (pss_cons (ps_set (i := 4) sc.nd rfl (Or.inl rfl) (pe_ix ix_seq (pe_ix ix_seq (pe_fld (pv 0) rfl) (pv 2) (fun _ _ => rfl)) pe_int (fun _ _ => rfl)))
        (pss_cons (ps_set (i := 5) sc.nd rfl (Or.inl rfl) (pe_ix ix_seq (pe_fld (pv 0) rfl) (pv 1) (fun _ _ => rfl)))
        (pss_cons (ps_if (PW.pt (pw_and (pt_cmpR op_in_seq (pv 4) (pe_gref (g_LAZY T)) rfl) (pw_and (pt_cmpR op_eq (pv 3) pe_int (nomark _)) (pw_and1 (pt_cmpR op_ne (pe_ix ix_seq (pv 5) pe_int (fun _ _ => rfl)) pe_str (nomark _))))))
        (pss_one (ps_ret pe_non))
        pss_nil)
        (pss_cons (ps_if (pt_not (pt_val (pe_u h_is_passed_on hr rfl (g_is_passed_on T) (pa_cons (pv 4) (pa_cons (pv 3) (pa_cons (pv 5) pa_nil))))))
        (pss_one (ps_ret (pv 1)))
        pss_nil)
        (pss_cons (ps_asg (pv 5) (pg_sub (pe_fld (pv 0) rfl) (pv 2) set_list))
        (pss_one (ps_set (i := 1) sc.nd rfl (Or.inl rfl) (pv 2))))))))))
      (pss_one (ps_ret (pv 1)))), ?_⟩
    have hC := cl_Walk T
    let Pv : Nat → Nat → Vals' → Nat → L2.St → Hp → Prop := fun m at_ vs f σ H1 => m = e.length - at_ ∧ (∃ o2 o3 o4 o5, σ = [some (.ref wk), some (.int (at_ : Nat)), o2, o3, o4, o5]) ∧ But vl H H1 ∧ WkAt K H1 wk e rq a es vl vs rd rs ∧ at_ < e.length ∧ hasV vs at_ ∧
      settle e (roles e) f at_ vs = settle e (roles e) e.length k vals ∧ e.length ≤ at_ + f
    refine ⟨fun m σ H1 => ∃ at_ vs f, Pv m at_ vs f σ H1, ⟨_, k, vals, e.length, rfl, ⟨_, _, _, _, rfl⟩, But.refl _ _, W, hk, hv, rfl, by omega⟩, ?_⟩
    rintro m σ H1 ⟨at_, vs, f, rfl, ⟨o2, o3, o4, o5, rfl⟩, hB, W1, hat, ⟨x, hx⟩, hset, hf⟩
    have W0 := W1
    obtain ⟨⟨dx, ve, vq, rl, sl, h1, h2, h3, h4, h5, n1, n2, n3, n4, n5⟩, hdb, ⟨xs, g1, g2⟩, hrs, c1, c2, c3, c4, c5, c6, c7⟩ := W1
    obtain ⟨rl', rx, erl, hrl, hrx⟩ := dp_lst h4
    cases erl
    obtain ⟨vr, hvr, hdr⟩ := role_at hat hrx
    obtain ⟨vx, hvx, hdx⟩ := enc_get g2 (getD_some hx)
    have hgx := c3 at_ x hx
    obtain ⟨f', rfl⟩ : ∃ f', f = f' + 1 := ⟨f - 1, by omega⟩
    have fin : ∀ (r : Option Nat) (vs' : Vals') (H2 : Hp) (v : V), settle e (roles e) e.length k vals = (r, vs') → But vl H H2 → WkAt K H2 wk e rq a es vl vs' rd rs → v = (match r with
        | some s => V.int (s : Nat)
        | none => .non) → Q v H2 := fun r vs' H2 v e1 hB2 W2 e2 => by
      have := kk H2 hB2
      rw [e1] at this
      rw [e2]
      exact this W2
    refine ⟨_, rfl, wk, _, dx, _, _, rfl, h1, hC, na_Walk_roles T, rfl, _, rfl, rixL hrl (atI_nat hvr) ⟨rfl, _, rfl, ?_⟩⟩
    rw [settle] at hset
    cases hro : (roles e).getD at_ none with
    | none =>
      rw [hro] at hdr hset
      obtain rfl := dpN hdr
      refine ifF (by simp) ⟨_, rfl, fin (some at_) vs H1 _ ?_ hB W0 rfl⟩
      rw [← hset]
    | some pn =>
      obtain ⟨p, n⟩ := pn
      rw [hro] at hdr hset
      obtain ⟨dr, y1, y2, rfl, hdq, q1, q2⟩ := dp2 hdr
      obtain rfl := dpI q1
      obtain rfl := dpI q2
      obtain ⟨nd, hp, hon⟩ := roles_get hro
      obtain ⟨l1, l2⟩ := FF.op_lt c1.wf hp (List.mem_of_getElem? hon)
      have hpl : p < e.length := by
        rcases Nat.lt_or_ge p e.length with h | h
        · exact h
        · rw [List.getElem?_eq_none h] at hp; cases hp
      rw [hx] at hset
      have hgd : e.getD p .prin = nd := by rw [List.getD_eq_getElem?_getD, hp]; rfl
      simp only [hgd] at hset
      obtain ⟨b, ns, rfl, hb, hns⟩ := dp_tup h2
      obtain ⟨vn, hvn, hnd'⟩ := enc_get hns hp
      obtain ⟨c, ys, rfl, hc, hw⟩ := node_word hnd'
      obtain ⟨d, y0, rfl, hd, hy0⟩ := val_hd hdx
      refine ifT (by simp) ⟨fun σ' H' => ∃ vs, Pv (e.length - p) p vs f' σ' H', fun σ' H' h => ⟨_, by omega, let ⟨vs, h'⟩ := h; ⟨p, vs, f', h'⟩⟩, ?_⟩
      refine ⟨_, rfl, wk, _, dx, _, _, rfl, h1, hC, na_Walk_roles T, rfl, _, rfl, rixL hrl (atI_nat hvr) (gp2 hdq ?_)⟩
      refine ⟨_, rfl, wk, _, dx, _, _, rfl, h1, hC, na_Walk_expression T, rfl, _, rfl, rixT hb (atI_nat hvn) (rixT hc hw ?_)⟩
      refine ⟨_, rfl, wk, _, dx, _, _, rfl, h1, hC, na_Walk_values T, rfl, _, rfl, rixL (sqN g1) (atI_nat hvx) ?_⟩
      refine ⟨_, rfl, _, _, rfl, .inr (t_LAZY T _), rfl, rfl, _, rfl, ?_⟩
      have eL := inV_lazy nd
      have hz : (isLazy nd = true ∧ n = 0 ∧ isTruth x = false) ∨ ((isLazy nd && (decide (n = 0) && !isTruth x)) = false ∧ (isLazy nd = false ∨ (isLazy nd = true ∧ n ≠ 0) ∨ (isLazy nd = true ∧ n = 0 ∧ isTruth x = true))) := by
        cases isLazy nd <;> cases isTruth x <;> by_cases q : n = 0 <;> simp [q]
      rcases hz with ⟨hl, hn0, ht⟩ | ⟨hnz, hz⟩
      · refine ifT (eL.trans hl) ⟨_, rfl, rfl, _, rfl, ifT (by simp [hn0]) ⟨_, rfl, rixT hd rfl ⟨rfl, _, rfl, ifT (by rw [truth_w, ht]; rfl) ?_⟩⟩⟩
        refine fin none vs H1 _ ?_ hB W0 rfl
        rw [← hset, hl, hn0, ht]
        rfl
      · rw [hnz] at hset
        rcases hz with hl | ⟨hl, hn0⟩ | ⟨hl, hn0, ht⟩
        · refine ifF (eL.trans hl) (ifF rfl ?_)
          refine ⟨_, rfl, _, rfl, _, rfl, _, nd, x, n, rfl, hdx, hgx, _, rfl, ifB (fun hp0 => ?_) (fun hp0 => ?_)⟩
          · have hp1 : passedOn nd n x = false := by simpa using hp0
            refine ⟨_, rfl, fin (some at_) vs H1 _ ?_ hB W0 rfl⟩
            rw [← hset, hp1]
            rfl
          · have hp1 : passedOn nd n x = true := by simpa using hp0
            obtain ⟨xs', g1', hxl, W2⟩ := wk_put (k := p) hgx hdx W0
            obtain rfl : xs' = xs := by rw [g1] at g1'; cases g1'; rfl
            refine ⟨_, rfl, _, rfl, wk, _, dx, _, _, rfl, h1, hC, na_Walk_values T, rfl, _, rfl, vl, xs', _, p, rfl, rfl, g1, by rw [hxl]; exact ixN_nat hpl, ?_⟩
            refine ⟨_, rfl, vs.set p (some x), rfl, ⟨_, _, _, _, rfl⟩, hB.trans (But.refl vl H1).put, W2, hpl, ⟨x, ?_⟩, ?_, by omega⟩
            · rw [List.getD_eq_getElem?_getD, List.getElem?_set_self (by rw [c4]; exact hpl)]
              rfl
            · rw [← hset, hp1]
              rfl
        · refine ifT (eL.trans hl) ⟨_, rfl, rfl, _, rfl, ifF (by simp; omega) (ifF rfl ?_)⟩
          refine ⟨_, rfl, _, rfl, _, rfl, _, nd, x, n, rfl, hdx, hgx, _, rfl, ifB (fun hp0 => ?_) (fun hp0 => ?_)⟩
          · have hp1 : passedOn nd n x = false := by simpa using hp0
            refine ⟨_, rfl, fin (some at_) vs H1 _ ?_ hB W0 rfl⟩
            rw [← hset, hp1]
            rfl
          · have hp1 : passedOn nd n x = true := by simpa using hp0
            obtain ⟨xs', g1', hxl, W2⟩ := wk_put (k := p) hgx hdx W0
            obtain rfl : xs' = xs := by rw [g1] at g1'; cases g1'; rfl
            refine ⟨_, rfl, _, rfl, wk, _, dx, _, _, rfl, h1, hC, na_Walk_values T, rfl, _, rfl, vl, xs', _, p, rfl, rfl, g1, by rw [hxl]; exact ixN_nat hpl, ?_⟩
            refine ⟨_, rfl, vs.set p (some x), rfl, ⟨_, _, _, _, rfl⟩, hB.trans (But.refl vl H1).put, W2, hpl, ⟨x, ?_⟩, ?_, by omega⟩
            · rw [List.getD_eq_getElem?_getD, List.getElem?_set_self (by rw [c4]; exact hpl)]
              rfl
            · rw [← hset, hp1]
              rfl
        · refine ifT (eL.trans hl) ⟨_, rfl, rfl, _, rfl, ifT (by simp [hn0]) ⟨_, rfl, rixT hd rfl ⟨rfl, _, rfl, ifF (by rw [truth_w, ht]; rfl) ?_⟩⟩⟩
          refine ⟨_, rfl, _, rfl, _, rfl, _, nd, x, n, rfl, hdx, hgx, _, rfl, ifB (fun hp0 => ?_) (fun hp0 => ?_)⟩
          · have hp1 : passedOn nd n x = false := by simpa using hp0
            refine ⟨_, rfl, fin (some at_) vs H1 _ ?_ hB W0 rfl⟩
            rw [← hset, hp1]
            rfl
          · have hp1 : passedOn nd n x = true := by simpa using hp0
            obtain ⟨xs', g1', hxl, W2⟩ := wk_put (k := p) hgx hdx W0
            obtain rfl : xs' = xs := by rw [g1] at g1'; cases g1'; rfl
            refine ⟨_, rfl, _, rfl, wk, _, dx, _, _, rfl, h1, hC, na_Walk_values T, rfl, _, rfl, vl, xs', _, p, rfl, rfl, g1, by rw [hxl]; exact ixN_nat hpl, ?_⟩
            refine ⟨_, rfl, vs.set p (some x), rfl, ⟨_, _, _, _, rfl⟩, hB.trans (But.refl vl H1).put, W2, hpl, ⟨x, ?_⟩, ?_, by omega⟩
            · rw [List.getD_eq_getElem?_getD, List.getElem?_set_self (by rw [c4]; exact hpl)]
              rfl
            · rw [← hset, hp1]
              rfl
end
end FF
set_option Elab.async false
set_option linter.all false
set_option maxRecDepth 100000
set_option maxHeartbeats 4000000
namespace FF
open PySem PySem.Spec PyProof.Rows L2
local macro_rules | `(tactic| walk_at "r") => `(tactic| repeat (first
   | refine ⟨_, rfl, ?_⟩
   | refine ⟨_, _, rfl, rfl, ?_⟩
   | refine ⟨rfl, ?_⟩
   | refine rixT (by assumption) rfl ?_
   | refine rixL (by assumption) rfl ?_
   | refine ifT (by decide +kernel) ?_
   | refine ifF (by decide +kernel) ?_))
section
variable {P : Program} {w : World} {K : PySem.W.Frag} {mg : Str → Option Value} {base : Heap}

theorem node_if {nd : Node} : (decide (V.str (nodeW nd) = V.str "if")) = isIte nd := by
  have h : (nodeW nd = "if") ↔ isIte nd = true := by
    cases nd with
    | two w i j => cases w <;> simp only [nodeW, Two.w, isIte] <;> decide +kernel
    | one w i n => cases w <;> simp only [nodeW, One.w, isIte] <;> decide +kernel
    | _ => simp only [nodeW, isIte] <;> decide +kernel
  by_cases q : nodeW nd = "if"
  · rw [h.mp q]; simp [q]
  · have : isIte nd = false := by
      cases e : isIte nd with
      | true => exact absurd (h.mpr e) q
      | false => rfl
    rw [this]; simp [q]
def behOf (n : Nat) (st : List Nat) (vals : Vals') (k : Nat) : Node → Nat
  | .ite _ _ k' => if n = 0 ∧ vals.getD k none = some (.sc (.tr false)) then st.getD k' 0 else k + 1
  | _ => k + 1
theorem behind_is {e : List Node} {rl : List Role} {st : List Nat} {vals : Vals'} {k p n : Nat} {nd : Node} (hro : rl.getD k none = some (p, n)) (hgd : e.getD p .prin = nd) : behind e rl st vals k = behOf n st vals k nd := by
  unfold behind
  rw [hro]
  simp only
  rw [hgd]
  cases nd <;> rfl
theorem ok_Walk_behind (T : Top w K mg) : O_Walk_behind P w K mg base := by
  refine mk_ok (f_Walk__behind T) sc_Walk__behind rfl rfl (fun _ _ _ _ _ _ us hl => match us, hl with | [_, _], _ => rfl) (fun vs H Q E h => ?_) (fun f cdv A outer s H vs Q E hr h => ?_)
  · obtain ⟨wk, e, rq, a, es, vl, vals, rd, rs, p, k, rfl, _⟩ := h
    rfl
  · obtain ⟨wk, e, rq, a, es, vl, vals, rd, rs, pn, k, rfl, W, hro, ⟨x, hx⟩, kk⟩ := h
    have sc := sc_Walk__behind
    refine ⟨_, (pss_cons (ps_asg (pe_ix ix_seq (pe_fld (pv 0) rfl) (pv 1) (fun _ _ => rfl)) (pg_tup rfl (pgs_cons (pg_name (i := 2) sc.nd rfl (Or.inl rfl)) (pgs_cons (pg_name (i := 3) sc.nd rfl (Or.inl rfl)) pgs_nil))))
      (pss_cons (ps_set (i := 4) sc.nd rfl (Or.inl rfl) (pe_ix ix_seq (pe_fld (pv 0) rfl) (pv 2) (fun _ _ => rfl)))
      (pss_cons (ps_if (PW.pt (pw_and (pt_cmpR op_eq (pe_ix ix_seq (pv 4) pe_int (fun _ _ => rfl)) pe_str (nomark _)) (pw_and (pt_cmpR op_eq (pv 3) pe_int (nomark _)) (pw_and1 (pt_cmpR (op_eqD (u64 hr)) (pe_ix ix_seq (pe_fld (pv 0) rfl) (pv 1) (fun _ _ => rfl)) (pe_gref (g_NO T)) (nomark _))))))
      (pss_one (ps_ret (pe_ix ix_seq (pe_fld (pv 0) rfl) (pe_ix ix_seq (pv 4) pe_int (fun _ _ => rfl)) (fun _ _ => rfl))))
      pss_nil)
      (pss_one (ps_ret (pe_op op_add (pv 1) pe_int)))))), ?_⟩
    have hC := cl_Walk T
    obtain ⟨⟨dx, ve, vq, rl, sl, h1, h2, h3, h4, h5, n1, n2, n3, n4, n5⟩, hdb, ⟨xs, g1, g2⟩, hrs, c1, c2, c3, c4, c5, c6, c7⟩ := W
    obtain ⟨rl', rx, erl, hrl, hrx⟩ := dp_lst h4
    cases erl
    have hk : k < e.length := by
      have h9 := getD_some hx
      rcases Nat.lt_or_ge k vals.length with h | h
      · omega
      · rw [List.getElem?_eq_none h] at h9; cases h9
    obtain ⟨vr, hvr, hdr⟩ := role_at hk hrx
    obtain ⟨p, n⟩ := pn
    rw [hro] at hdr
    obtain ⟨dr, y1, y2, rfl, hdq, q1, q2⟩ := dp2 hdr
    obtain rfl := dpI q1
    obtain rfl := dpI q2
    obtain ⟨vx, hvx, hdx⟩ := enc_get g2 (getD_some hx)
    have hgx := c3 k x hx
    obtain ⟨nd, hp, hon⟩ := roles_get hro
    have hgd : e.getD p .prin = nd := by rw [List.getD_eq_getElem?_getD, hp]; rfl
    obtain ⟨b, ns, rfl, hb, hns⟩ := dp_tup h2
    obtain ⟨vn, hvn, hnd'⟩ := enc_get hns hp
    obtain ⟨c, ys, rfl, hc, hw⟩ := node_word hnd'
    have hbeh : behind e (roles e) (starts e) vals k = behOf n (starts e) vals k nd := behind_is hro hgd
    have next : behind e (roles e) (starts e) vals k = k + 1 → Q (.int ((k : Int) + 1)) H := fun e1 => by
      rw [e1] at kk
      exact kk
    refine ⟨_, rfl, wk, _, dx, _, _, rfl, h1, hC, na_Walk_roles T, rfl, _, rfl, rixL hrl (atI_nat hvr) (gp2 hdq ?_)⟩
    refine ⟨_, rfl, wk, _, dx, _, _, rfl, h1, hC, na_Walk_expression T, rfl, _, rfl, rixT hb (atI_nat hvn) ?_⟩
    refine ⟨_, rfl, rixT hc hw ⟨rfl, _, rfl, ?_⟩⟩
    refine ifB (fun hi => ?_) (fun hi => ?_)
    · rw [node_if] at hi
      obtain ⟨i1, i2, i3, rfl⟩ : ∃ i1 i2 i3, nd = .ite i1 i2 i3 := by
        cases nd with
        | ite i1 i2 i3 => exact ⟨_, _, _, rfl⟩
        | _ => cases hi
      obtain ⟨c', z0, z1, z2, z3, e5, hc', w0, w1, w2, w3⟩ := dp4 hnd'
      cases e5
      obtain rfl := dpI w3
      refine ⟨_, rfl, rfl, _, rfl, ?_⟩
      by_cases hn : n = 0
      · refine ifT (by simp [hn]) ⟨_, rfl, wk, _, dx, _, _, rfl, h1, hC, na_Walk_values T, rfl, _, rfl, rixL (sqN g1) (atI_nat hvx) ⟨encVal x, encVal (.sc (.tr false)), hdx, no_dp T H, shp_val hgx, shp_val trivial, _, rfl, ?_⟩⟩
        rw [eqv_val]
        refine ifB (fun hf => ?_) (fun hf => ?_)
        · have hf' : x = .sc (.tr false) := by simpa using hf
          have hi3 : i3 < e.length := by
            have := (FF.op_lt c1.wf hp (o := i3) (by simp [ops])).1
            have hpl : p < e.length := by
              rcases Nat.lt_or_ge p e.length with h | h
              · exact h
              · rw [List.getElem?_eq_none h] at hp; cases hp
            omega
          obtain ⟨sl', sx, esl, hsl, hsx⟩ := dp_lst h5
          cases esl
          obtain rfl := encInts_at hsx
          refine ⟨_, rfl, wk, _, dx, _, _, rfl, h1, hC, na_Walk_starts T, rfl, _, rfl, rixT hc' rfl (rixL hsl (atI_nat (j := i3) (v := V.int (((starts e).getD i3 0 : Nat) : Int)) ?_) ?_)⟩
          · have hl : i3 < (starts e).length := by rw [starts_len]; exact hi3
            rw [List.getElem?_map, List.getElem?_eq_getElem hl, List.getD_eq_getElem?_getD, List.getElem?_eq_getElem hl]
            rfl
          · have e9 : behind e (roles e) (starts e) vals k = (starts e).getD i3 0 := by
              rw [hbeh]
              unfold behOf
              simp only
              rw [if_pos ⟨hn, by rw [hx, hf']⟩]
            rw [e9] at kk
            exact kk
        · have hf' : x ≠ .sc (.tr false) := by simpa using hf
          refine ⟨_, rfl, _, _, rfl, rfl, next ?_⟩
          rw [hbeh]
          unfold behOf
          simp only
          rw [if_neg (by rintro ⟨_, h⟩; rw [hx] at h; exact hf' (Option.some.inj h))]
      · refine ifF (by simp; omega) (ifF rfl ⟨_, rfl, _, _, rfl, rfl, next ?_⟩)
        rw [hbeh]
        unfold behOf
        simp only
        rw [if_neg (by rintro ⟨h, _⟩; exact hn h)]
    · rw [node_if] at hi
      refine ifF rfl ⟨_, rfl, _, _, rfl, rfl, next ?_⟩
      rw [hbeh]
      cases nd with
      | ite _ _ _ => cases hi
      | _ => rfl
theorem out_hd {H : Hp} {u : V} {o : Out} (h : Dp K H u (encOut o)) : ∃ a y, u = V.ref a ∧ SqT K H a [.str (match o with | .value _ => "value" | .fails _ => "fails"), y] ∧ (∀ v, o = .value v → Dp K H y (encVal v)) := by
  cases o with
  | value v =>
    obtain ⟨a, x, y, rfl, hq, h1, h2⟩ := dp2 h
    obtain rfl := dpS h1
    exact ⟨a, y, rfl, hq, fun v' e => by cases e; exact h2⟩
  | fails z =>
    obtain ⟨a, x, y, rfl, hq, h1, h2⟩ := dp2 h
    obtain rfl := dpS h1
    exact ⟨a, y, rfl, hq, fun v' e => by cases e⟩
theorem note_len (rs : List Read) (q : Option Read) : (noteRead rs q).length ≤ rs.length + 1 := by
  cases q with
  | none => exact Nat.le_succ _
  | some r =>
    rw [noteSome]
    split
    · omega
    · rw [List.length_append, List.length_singleton]; omega
theorem But2.trans2 {x y : Addr} {H1 H2 H3 : Hp} (a : But2 x y H1 H2) (b : But2 x y H2 H3) : But2 x y H1 H3 := fun c o n1 n2 h => b c o n1 n2 (a c o n1 n2 h)
theorem But2.of_vl {x y : Addr} {H1 H2 : Hp} (a : But x H1 H2) : But2 x y H1 H2 := fun c o n1 _ h => a c o n1 h
theorem But2.of_rd {x y : Addr} {H1 H2 : Hp} (a : But y H1 H2) : But2 x y H1 H2 := fun c o _ n2 h => a c o n2 h
theorem But2.of {x y : Addr} {H1 H2 : Hp} (a : Same H1 H2) : But2 x y H1 H2 := fun c o _ _ h => a c o h
theorem ok_Walk_run (T : Top w K mg) (h_Walk_behind : O_Walk_behind P w K mg base) (h_Walk_outcome : O_Walk_outcome P w K mg base) (h_Walk_settle : O_Walk_settle P w K mg base) : O_Walk_run P w K mg base := by
  refine mk_ok (f_Walk_run T) sc_Walk_run rfl rfl (fun _ _ _ _ _ _ us hl => match us, hl with | [_], _ => rfl) (fun vs H Q E h => ?_) (fun f cdv A outer s H vs Q E hr h => ?_)
  · obtain ⟨wk, e, rq, a, es, vl, rd, rfl, _⟩ := h
    rfl
  · obtain ⟨wk, e, rq, a, es, vl, rd, rfl, W, kk⟩ := h
    have sc := sc_Walk_run
    refine ⟨_, (pss_cons (ps_set (i := 1) sc.nd rfl (Or.inl rfl) pe_int)
      (pss_one (ps_while PassesOwn.never (pt_val pe_bl)
      (pss_cons (ps_set (i := 2) sc.nd rfl (Or.inl rfl) (pe_mU h_Walk_outcome hr (cl_Walk T) (me_Walk_outcome T) (pv 0) (pa_cons (pv 1) pa_nil)))
        (pss_cons (ps_if (pt_cmpR op_ne (pe_ix ix_seq (pv 2) pe_int (fun _ _ => rfl)) pe_str (nomark _))
        (pss_one (ps_ret (pv 2)))
        pss_nil)
        (pss_cons (ps_asg (pe_ix ix_seq (pv 2) pe_int (fun _ _ => rfl)) (pg_sub (pe_fld (pv 0) rfl) (pv 1) set_list))
        (pss_cons (ps_set (i := 3) sc.nd rfl (Or.inl rfl) (pe_mU h_Walk_settle hr (cl_Walk T) (me_Walk_settle T) (pv 0) (pa_cons (pv 1) pa_nil)))
        (pss_cons (ps_if (pt_cmpR op_isN (pv 3) pe_non (nomark _))
        (pss_one (ps_ret (pe_gref (g_WRONG_KIND T))))
        pss_nil)
        (pss_cons (ps_if (pt_cmpR op_isN (pe_ix ix_seq (pe_fld (pv 0) rfl) (pv 3) (fun _ _ => rfl)) pe_non (nomark _))
        (pss_one (ps_ret (pe_tup (pa_cons pe_str (pa_cons (pe_ix ix_seq (pe_fld (pv 0) rfl) (pv 3) (fun _ _ => rfl)) pa_nil)))))
        pss_nil)
        (pss_one (ps_set (i := 1) sc.nd rfl (Or.inl rfl) (pe_mU h_Walk_behind hr (cl_Walk T) (me_Walk_behind T) (pv 0) (pa_cons (pv 3) pa_nil))))))))))))), ?_⟩
    have hC := cl_Walk T
    let Pv : Nat → Nat → Vals' → List Read → Nat → L2.St → Hp → Prop := fun m at_ vs rs f σ H1 => m = e.length - at_ ∧ (∃ o2 o3, σ = [some (.ref wk), some (.int (at_ : Nat)), o2, o3]) ∧ But2 vl rd H H1 ∧ WkAt K H1 wk e rq a es vl vs rd rs ∧ Inv e at_ vs ∧ rs.length ≤ at_ ∧
      run e rq (tell es) f at_ vs rs = evalM e rq (tell es) ∧ e.length ≤ at_ + f
    refine ⟨fun m σ H1 => ∃ at_ vs rs fu, Pv m at_ vs rs fu σ H1, ⟨_, 0, _, [], e.length + 1, rfl, ⟨_, _, rfl⟩, fun _ _ _ _ h => h, W, inv0 W.ok.wf (List.length_pos_iff.mpr W.ok.ne), Nat.le_refl _, rfl, by omega⟩, ?_⟩
    rintro m σ H1 ⟨at_, vs, rs, fu, rfl, ⟨o2, o3, rfl⟩, hB, W1, I, hrl, hrun, hf⟩
    refine ⟨true, rfl, ifT rfl ⟨fun σ' H' => ∃ at2 vs rs fu, at_ < at2 ∧ at2 < e.length ∧ Pv (e.length - at2) at2 vs rs fu σ' H', fun σ' H' h => let ⟨at2, vs, rs, fu, h1, h2, h'⟩ := h; ⟨e.length - at2, by omega, at2, vs, rs, fu, h'⟩, ?_⟩⟩
    have hat := I.lt
    obtain ⟨f', rfl⟩ : ∃ f', fu = f' + 1 := ⟨fu - 1, by omega⟩
    obtain ⟨nd, hnd⟩ : ∃ nd, e[at_]? = some nd := ⟨e[at_]'hat, by simp [hat]⟩
    have hgd : e.getD at_ .prin = nd := by rw [List.getD_eq_getElem?_getD, hnd]; rfl
    have hlen := W1.elen
    obtain ⟨dx, ve, vq, rl, sl, h1, -⟩ := W1.ex
    refine ⟨_, rfl, wk, dx, _, rfl, h1, rfl, _, rfl, wk, e, rq, a, es, vl, vs, rd, rs, nd, at_, rfl, W1, hnd, I.ne nd hnd, I.ops W1.ok.wf hnd, by omega, fun u H2 hB2 W2 hu hgood => ?_⟩
    have hB02 : But2 vl rd H H2 := But2.trans2 hB (But2.of_rd hB2)
    have hrl2 := note_len rs (nodeOut (tell es) rq vs nd).2
    rw [run, hgd] at hrun
    obtain ⟨a', y, rfl, hq, hy⟩ := out_hd hu
    cases hO : nodeOut (tell es) rq vs nd with
    | mk o1 q =>
      rw [hO] at hrun W2 hu hgood hy hq hrl2
      cases o1 with
      | fails z =>
        simp only at hrun hq
        refine ⟨_, rfl, rixT hq rfl ⟨rfl, _, rfl, ifT (by decide +kernel) ⟨_, rfl, kk _ H2 vs hB02 ?_ ?_⟩⟩⟩
        · rw [← hrun]; exact W2
        · rw [← hrun]; exact hu
      | value v =>
        simp only at hrun hq
        have hyv := hy v rfl
        have hgv := hgood v rfl
        obtain ⟨xs, g1, hxl, W3⟩ := wk_put (k := at_) hgv hyv W2
        obtain ⟨dx2, ve2, vq2, rl2, sl2, h12, -⟩ := W2.ex
        refine ⟨_, rfl, rixT hq rfl ⟨rfl, _, rfl, ifF (by decide +kernel) ?_⟩⟩
        refine ⟨_, rfl, rixT hq rfl ⟨_, rfl, wk, _, dx2, _, _, rfl, h12, hC, na_Walk_values T, rfl, _, rfl, vl, xs, _, at_, rfl, rfl, g1, by rw [hxl]; exact ixN_nat hat, ?_⟩⟩
        have hB03 : But2 vl rd H (upd H2 vl (.lst (xs.set at_ y))) := But2.trans2 hB02 (But2.of_vl (But.refl vl H2).put)
        have hhas : hasV (vs.set at_ (some v)) at_ := ⟨v, by rw [List.getD_eq_getElem?_getD, List.getElem?_set_self (by rw [W1.vlen]; exact hat)]; rfl⟩
        obtain ⟨dx3, ve3, vq3, rl3, sl3, h13, -⟩ := W3.ex
        refine ⟨_, rfl, wk, dx3, _, rfl, h13, rfl, _, rfl, wk, e, rq, a, es, vl, _, rd, _, at_, rfl, W3, hat, hhas, fun H4 hB4 W4 => ?_⟩
        have hB04 : But2 vl rd H H4 := But2.trans2 hB03 (But2.of_vl hB4)
        cases hS : settle e (roles e) e.length at_ (vs.set at_ (some v)) with
        | mk so vals2 =>
          rw [hS] at hrun W4
          cases so with
          | none =>
            simp only at hrun
            refine ⟨_, rfl, rfl, _, rfl, ifT (by simp) (kk _ H4 vals2 hB04 ?_ ?_)⟩
            · rw [← hrun]; exact W4
            · rw [← hrun]; exact wk_dp T H4
          | some s' =>
            simp only at hrun
            have S := settle_ok W1.ok.wf e.length at_ _ s' vals2 hat (by omega) (by rw [List.length_set]; exact W1.vlen) hhas hS
            obtain ⟨dx4, ve4, vq4, rl4, sl4, h14, -, -, h44, -⟩ := W4.ex
            obtain ⟨rl', rx, erl, hrlst, hrx⟩ := dp_lst h44
            cases erl
            obtain ⟨vr, hvr, hdr⟩ := role_at S.lt hrx
            refine ⟨_, rfl, rfl, _, rfl, ifF (by simp) ?_⟩
            refine ⟨_, rfl, wk, _, dx4, _, _, rfl, h14, hC, na_Walk_roles T, rfl, _, rfl, rixL hrlst (atI_nat hvr) ⟨rfl, _, rfl, ?_⟩⟩
            cases hro : (roles e).getD s' none with
            | none =>
              rw [hro] at hdr hrun
              obtain rfl := dpN hdr
              obtain ⟨x, hx⟩ := S.here
              rw [hx] at hrun
              simp only at hrun
              obtain ⟨xs4, g14, g24⟩ := W4.vs
              obtain ⟨vx, hvx, hdx⟩ := enc_get g24 (getD_some hx)
              refine ifT (by simp) ⟨_, rfl, wk, _, dx4, _, _, rfl, h14, hC, na_Walk_values T, rfl, _, rfl, rixL (sqN g14) (atI_nat hvx) ⟨by show 2 ≤ sizeLine; decide, fun p hp => ?_⟩⟩
              have hS5 := same_new (o := HO.tup [V.str "value", vx]) hp
              refine kk _ _ vals2 (But2.trans2 hB04 (But2.of hS5)) ?_ ?_
              · rw [← hrun]; exact wk_same hS5 W4
              · rw [← hrun]; exact dp_new hp (.cons (.str _) (.cons hdx .nil))
            | some pn =>
              obtain ⟨p, n⟩ := pn
              rw [hro] at hdr hrun
              simp only at hrun
              obtain ⟨dr, y1, y2, rfl, hdq, q1, q2⟩ := dp2 hdr
              obtain ⟨hlt, I2⟩ := next_ok W1.ok.wf I S hro
              refine ifF (by simp) ⟨_, rfl, wk, dx4, _, rfl, h14, rfl, _, rfl, wk, e, rq, a, es, vl, vals2, rd, _, (p, n), s', rfl, W4, hro, S.here, ?_⟩
              exact ⟨_, vals2, _, f', hlt, I2.lt, rfl, ⟨_, _, rfl⟩, hB04, W4, I2, by omega, hrun, by omega⟩
theorem ok_evaluate (T : Top w K mg) (h_Walk_init : O_Walk_init P w K mg base) (h_Walk_run : O_Walk_run P w K mg base) : O_evaluate P w K mg base := by
  refine mk_ok (f_evaluate T) sc_evaluate rfl rfl (fun _ _ _ _ _ _ us hl => match us, hl with | [_, _, _], _ => rfl) (fun vs H Q E h => ?_) (fun f cdv A outer s H vs Q E hr h => ?_)
  · obtain ⟨ve, vq, a, es, e, rq, rfl, _⟩ := h
    rfl
  · obtain ⟨ve, vq, a, es, e, rq, rfl, he, hq, hdb, hok, hel, hgl, hgq, hgu, k⟩ := h
    have sc := sc_evaluate
    refine ⟨_, (pss_cons (ps_set (i := 3) sc.nd rfl (Or.inl rfl) (pe_mkU h_Walk_init hr (mk_Walk T) rfl (g_Walk T) (pa_cons (pv 0) (pa_cons (pv 1) (pa_cons (pv 2) pa_nil)))))
      (pss_cons (ps_set (i := 4) sc.nd rfl (Or.inl rfl) (pe_mU0 h_Walk_run hr (cl_Walk T) (me_Walk_run T) (pv 3)))
      (pss_one (ps_ret (pe_tup (pa_cons (pv 4) (pa_cons (pe_fld (pv 3) rfl) pa_nil))))))), ?_⟩
    refine ⟨_, rfl, _, rfl, _, rfl, fun x dx hx hdx hne => ?_⟩
    have hS0 : Same H (upd (upd H dx (.own x)) x (.ins (CW K) dx [])) := (same_new hdx).trans (same_new (by rw [upd_ne (Ne.symm hne)]; exact hx))
    refine ⟨x, dx, ve, vq, a, es, e, rq, rfl, upd_same, dp_same hS0 he, dp_same hS0 hq, db_same hS0 hdb, hok, hel, hgl, hgq, hgu, fun H2 vl rd hB hvl hrd W => ⟨rfl, ?_⟩⟩
    obtain ⟨dx2, ve2, vq2, rl2, sl2, h12, -⟩ := W.ex
    refine ⟨_, rfl, x, dx2, _, rfl, h12, rfl, x, e, rq, a, es, vl, rd, rfl, W, fun u H3 vals hB3 W3 hu => ?_⟩
    obtain ⟨dx3, ve3, vq3, rl3, sl3, h13, -⟩ := W3.ex
    obtain ⟨r1, r2, zs, r3, r4⟩ := W3.rs
    refine ⟨_, rfl, _, rfl, x, _, dx3, _, _, rfl, h13, cl_Walk T, na_Walk_reads T, rfl, by show 2 ≤ sizeLine; decide, fun p hp => k _ _ ?_ (dp_new hp (.cons hu (.cons (dp_ofL (sqN r3) r4) .nil))) r1⟩
    intro c o hc
    have hc1 := hS0 c o hc
    have n1 : c ≠ x := by rintro rfl; rw [hx] at hc; cases hc
    have hvl' : (upd (upd H dx (.own x)) x (.ins (CW K) dx [])) vl = none := hvl
    have hrd' : (upd (upd H dx (.own x)) x (.ins (CW K) dx [])) rd = none := hrd
    have n2 : c ≠ vl := fun e => by rw [e, hvl'] at hc1; cases hc1
    have n3 : c ≠ rd := fun e => by rw [e, hrd'] at hc1; cases hc1
    exact same_new hp c o (hB3 c o n2 n3 (hB c o n1 hc1))
end
end FF
set_option Elab.async false
set_option linter.all false
set_option maxRecDepth 100000
set_option maxHeartbeats 4000000
/-! bounds: lengths, good texts -/
namespace FF
open PySem PySem.Spec PyProof.Rows L2
/-! ### paths -/
theorem strOk_lit {s : Str} (h : (sg s).all (fun c => decide (c < 1114112)) = true) : PyData.strOk s = true := strOk_all fun c hc => by
  have := List.all_eq_true.mp h c hc
  simpa using this
theorem strOk_dot : PyData.strOk "." = true := by decide +kernel
theorem path_str {p r : Str} {ns : List Str} (h : IsPath p r ns) : PyData.strOk p = true := by
  induction h with
  | uid hu => exact strOk_uid hu
  | prin => decide +kernel
  | act => decide +kernel
  | res => decide +kernel
  | ctx hn => exact strOk_app (strOk_app (by decide +kernel) strOk_dot) (strOk_name hn)
  | ext _ hn ih => exact strOk_app (strOk_app ih strOk_dot) (strOk_name hn)
theorem len_app (a b : Str) : (a ++ b).length = a.length + b.length := by
  rw [len_sg, len_sg, len_sg, sg_append, List.length_append]
theorem len_dot : (("." : Str)).length = 1 := by decide +kernel
theorem path_len {p r : Str} {ns : List Str} (h : IsPath p r ns) : p.length ≤ 30 + 13 * ns.length := by
  induction h with
  | uid hu => have := uid_len hu; omega
  | prin => decide +kernel
  | act => decide +kernel
  | res => decide +kernel
  | @ctx n hn =>
    have := name_len hn
    rw [len_app, len_app, len_dot]
    have : (("context" : Str)).length = 7 := by decide +kernel
    omega
  | @ext p r n ns _ hn ih =>
    have := name_len hn
    rw [len_app, len_app, len_dot, List.length_append, List.length_singleton]
    omega
theorem joinL_len {α : Type} [DecidableEq α] : ∀ (b a : List α), (joinL a b).length ≤ a.length + b.length
  | [], a => by simp [joinL]
  | x :: b, a => by
    show (joinL (if x ∈ a then a else a ++ [x]) b).length ≤ _
    refine Nat.le_trans (joinL_len b _) ?_
    rw [List.length_cons]
    split
    · omega
    · rw [List.length_append, List.length_singleton]; omega
theorem pth_none {e : List Node} {k : Nat} (h : e[k]? = none) : pth e k = [] := by
  unfold pth
  have : (nodePaths e)[k]? = none := List.getElem?_eq_none_iff.mpr (by rw [nodePaths_len]; exact List.getElem?_eq_none_iff.mp h)
  simp [List.getD, this]
theorem pth_len {e : List Node} (E : ExprOk e) : ∀ k nd, e[k]? = some nd → (pth e k).length + st e k ≤ k + 1 := by
  intro k
  induction k using Nat.strongRecOn with
  | _ k ih =>
    intro nd q
    have hk := lt_of_some q
    obtain ⟨hst, sh⟩ := shape E.wf k nd q
    have opn : ∀ o, o < k → (pth e o).length + st e o ≤ o + 1 := fun o ho => by
      have : o < e.length := by omega
      exact ih o ho (e[o]) (by simp [this])
    rw [pth_eq E.wf q]
    have small : ∀ l : List Str, l.length ≤ 1 → l.length + st e k ≤ k + 1 := fun l hl => by omega
    cases nd with
    | value v => cases v with
      | sc s => cases s <;> exact small _ (by simp [pathsOf])
      | st l => exact small _ (by simp [pathsOf])
    | prin => exact small _ (by simp [pathsOf])
    | act => exact small _ (by simp [pathsOf])
    | res => exact small _ (by simp [pathsOf])
    | ctx n => exact small _ (by simp [pathsOf])
    | given n => exact small _ (by simp [pathsOf])
    | not_ i => exact small _ (by simp [pathsOf])
    | two w i j => exact small _ (by cases w <;> simp [pathsOf])
    | one w i n => cases w with
      | get =>
        have hl : (pathsOf (nodePaths e) (.one .get i n)).length = (pth e i).length := by simp [pathsOf, extd, pth]
        rw [hl]
        cases sh with
        | zero h0 _ => simp [ops] at h0
        | one i' h0 h1 h2 =>
          have : i = i' := by simpa [ops] using h0
          subst this
          have := opn i (by omega)
          omega
        | two _ _ h0 => simp [ops] at h0
        | three _ _ _ h0 => simp [ops] at h0
      | _ => exact small _ (by simp [pathsOf])
    | ite i j l =>
      have hl : (pathsOf (nodePaths e) (.ite i j l)).length ≤ (pth e j).length + (pth e l).length := joinL_len _ _
      cases sh with
      | zero h0 _ => simp [ops] at h0
      | one _ h0 => simp [ops] at h0
      | two _ _ h0 => simp [ops] at h0
      | three i' j' l' h0 h1 h2 h3 h4 h5 h6 =>
        obtain ⟨rfl, rfl, rfl⟩ : i = i' ∧ j = j' ∧ l = l' := by simpa [ops] using h0
        have a1 := opn i (by omega)
        have a2 := opn j (by omega)
        have a3 := opn l (by omega)
        omega
theorem pth_le {e : List Node} (E : ExprOk e) (k : Nat) : (pth e k).length ≤ e.length := by
  cases q : e[k]? with
  | none => rw [pth_none q]; exact Nat.zero_le _
  | some nd => have := pth_len E k nd q; have := lt_of_some q; omega
theorem pth_deep {e : List Node} (E : ExprOk e) : ∀ k p, p ∈ pth e k → ∃ r ns, IsPath p r ns ∧ ns.length ≤ k := by
  intro k
  induction k using Nat.strongRecOn with
  | _ k ih =>
    intro p hp
    cases q : e[k]? with
    | none => rw [pth_none q] at hp; cases hp
    | some nd =>
      rw [pth_eq E.wf q] at hp
      have hok := E.nodes nd (List.mem_of_getElem? q)
      cases nd with
      | value v => cases v with
        | sc s => cases s with
          | en u =>
            have : p = u := by simpa [pathsOf] using hp
            subst this
            exact ⟨p, [], .uid hok, Nat.zero_le _⟩
          | _ => simp [pathsOf] at hp
        | st l => simp [pathsOf] at hp
      | prin =>
        have : p = "principal" := by simpa [pathsOf] using hp
        subst this
        exact ⟨_, [], .prin, Nat.zero_le _⟩
      | act =>
        have : p = "action" := by simpa [pathsOf] using hp
        subst this
        exact ⟨_, [], .act, Nat.zero_le _⟩
      | res =>
        have : p = "resource" := by simpa [pathsOf] using hp
        subst this
        exact ⟨_, [], .res, Nat.zero_le _⟩
      | ctx n =>
        have : p = cx n := by simpa [pathsOf] using hp
        subst this
        exact ⟨_, [], .ctx hok, Nat.zero_le _⟩
      | one w i n => cases w with
        | get =>
          obtain ⟨p0, h0, rfl⟩ := List.mem_map.mp (show p ∈ (pth e i).map _ from hp)
          have hi := (FF.op_lt E.wf q (o := i) (by simp [ops])).1
          obtain ⟨r, ns, hr, hn⟩ := ih i hi p0 h0
          exact ⟨r, _, .ext hr hok, by rw [List.length_append, List.length_singleton]; omega⟩
        | _ => simp [pathsOf] at hp
      | ite i j l =>
        have hj := (FF.op_lt E.wf q (o := j) (by simp [ops])).1
        have hl := (FF.op_lt E.wf q (o := l) (by simp [ops])).1
        rcases mem_joinL.mp (show p ∈ joinL (pth e j) (pth e l) from hp) with h | h
        · obtain ⟨r, ns, hr, hn⟩ := ih j hj p h
          exact ⟨r, ns, hr, by omega⟩
        · obtain ⟨r, ns, hr, hn⟩ := ih l hl p h
          exact ⟨r, ns, hr, by omega⟩
      | two w i j => cases w <;> simp [pathsOf] at hp
      | _ => simp [pathsOf] at hp
/-- a text that a manifest may hold -/
def PathOk (p : Str) : Prop := PyData.strOk p = true ∧ p.length ≤ 2000
theorem pathOk {p r : Str} {ns : List Str} (h : IsPath p r ns) (hn : ns.length ≤ 101) : PathOk p := ⟨path_str h, by have := path_len h; omega⟩
theorem pth_pathOk {e : List Node} (E : ExprOk e) (he : e.length ≤ 100) {k : Nat} {p : Str} (h : p ∈ pth e k) : PathOk p := by
  obtain ⟨r, ns, hr, hn⟩ := pth_deep E k p h
  have hk : k < e.length := by
    rcases Nat.lt_or_ge k e.length with h' | h'
    · exact h'
    · rw [pth_none (List.getElem?_eq_none h')] at h; cases h
  exact pathOk hr (by omega)
/-- a manifest of bounded size -/
structure ManB (m : Man) (n : Nat) : Prop where
  a : m.1.length ≤ n
  b : m.2.length ≤ n
  pa : ∀ p ∈ m.1, PathOk p
  pb : ∀ p ∈ m.2, PathOk p
theorem ext_pathOk {e : List Node} (E : ExprOk e) (he : e.length ≤ 100) {i : Nat} {n p : Str} (hn : isName n = true) (h : p ∈ extd (pth e i) n) : PathOk p := by
  obtain ⟨p0, h0, rfl⟩ := List.mem_map.mp h
  obtain ⟨r, ns, hr, hl⟩ := pth_deep E i p0 h0
  have hk : i < e.length := by
    rcases Nat.lt_or_ge i e.length with h' | h'
    · exact h'
    · rw [pth_none (List.getElem?_eq_none h')] at h0; cases h0
  exact pathOk (.ext hr hn) (by rw [List.length_append, List.length_singleton]; omega)
theorem step_man {e : List Node} (E : ExprOk e) (he : e.length ≤ 100) {m : Man} {n : Nat} {nd : Node} (hnd : nd ∈ e) (h : ManB m n) : ManB (exprManStep (nodePaths e) m nd) (n + 100) := by
  have mono : ManB m (n + 100) := ⟨by have := h.a; omega, by have := h.b; omega, h.pa, h.pb⟩
  have hok := E.nodes nd hnd
  have ext : ∀ (i : Nat) (z : Str), isName z = true → ManB (joinL m.1 (extd ((nodePaths e).getD i []) z), m.2) (n + 100) := fun i z hz => by
    have h1 := joinL_len (extd ((nodePaths e).getD i []) z) m.1
    have h2 : (extd ((nodePaths e).getD i []) z).length ≤ e.length := by
      unfold extd
      rw [List.length_map]
      exact pth_le E i
    refine ⟨?_, by have := h.b; exact Nat.le_trans this (by omega), fun p hp => ?_, h.pb⟩
    · have := h.a; exact Nat.le_trans h1 (by omega)
    · rcases mem_joinL.mp hp with hp | hp
      · exact h.pa p hp
      · exact ext_pathOk E he hz hp
  cases nd with
  | one w i z => cases w with
    | get => exact ext i z hok
    | has => exact ext i z hok
    | is_ => exact mono
  | two w i j => cases w with
    | isin =>
      have h1 := joinL_len ((nodePaths e).getD i []) m.2
      have h2 : ((nodePaths e).getD i []).length ≤ e.length := pth_le E i
      refine ⟨by have := h.a; exact Nat.le_trans this (by omega), ?_, h.pa, fun p hp => ?_⟩
      · have := h.b; exact Nat.le_trans h1 (by omega)
      · rcases mem_joinL.mp hp with hp | hp
        · exact h.pb p hp
        · exact pth_pathOk E he hp
    | _ => exact mono
  | _ => exact mono
theorem fold_man {e : List Node} (E : ExprOk e) (he : e.length ≤ 100) : ∀ (l : List Node) (m : Man) (n : Nat), (∀ nd ∈ l, nd ∈ e) → ManB m n → ManB (l.foldl (exprManStep (nodePaths e)) m) (n + 100 * l.length)
  | [], m, n, _, h => h
  | nd :: l, m, n, hl, h => by
    have h1 := fold_man E he l _ (n + 100) (fun x hx => hl x (List.mem_cons_of_mem _ hx)) (step_man E he (hl nd (List.mem_cons_self ..)) h)
    rw [List.length_cons, show n + 100 * (l.length + 1) = n + 100 + 100 * l.length by omega]
    exact h1
theorem man_nil (n : Nat) : ManB ([], []) n := ⟨Nat.zero_le _, Nat.zero_le _, fun _ h => (nomatch h), fun _ h => (nomatch h)⟩
theorem exprMan_b {e : List Node} (E : ExprOk e) (he : e.length ≤ 100) : ManB (exprMan e) 10000 := by
  have h := fold_man E he e ([], []) 0 (fun _ h => h) (man_nil 0)
  exact ⟨Nat.le_trans h.a (by omega), Nat.le_trans h.b (by omega), h.pa, h.pb⟩
theorem foldJ_man : ∀ (l : List Man) (m : Man) (n k : Nat), (∀ t ∈ l, ManB t k) → ManB m n → ManB (l.foldl (fun m t => (joinL m.1 t.1, joinL m.2 t.2)) m) (n + k * l.length)
  | [], m, n, k, _, h => h
  | t :: l, m, n, k, hl, h => by
    have ht := hl t (List.mem_cons_self ..)
    have h1 : ManB (joinL m.1 t.1, joinL m.2 t.2) (n + k) := by
      have a1 := joinL_len t.1 m.1
      have a2 := joinL_len t.2 m.2
      have b1 := h.a
      have b2 := h.b
      have c1 := ht.a
      have c2 := ht.b
      refine ⟨Nat.le_trans a1 (by omega), Nat.le_trans a2 (by omega), fun p hp => ?_, fun p hp => ?_⟩
      · rcases mem_joinL.mp hp with hp | hp
        · exact h.pa p hp
        · exact ht.pa p hp
      · rcases mem_joinL.mp hp with hp | hp
        · exact h.pb p hp
        · exact ht.pb p hp
    have h2 := foldJ_man l _ (n + k) k (fun x hx => hl x (List.mem_cons_of_mem _ hx)) h1
    rw [List.length_cons, Nat.mul_add, Nat.mul_one, show n + (k * l.length + k) = n + k + k * l.length by omega]
    exact h2
theorem joinMan_b {l : List Man} {k : Nat} (h : ∀ t ∈ l, ManB t k) : ManB (joinMan l) (k * l.length) := by
  have := foldJ_man l ([], []) 0 k h (man_nil 0)
  rw [Nat.zero_add] at this
  exact this
theorem ManB.mono {m : Man} {n k : Nat} (h : ManB m n) (hk : n ≤ k) : ManB m k := ⟨Nat.le_trans h.a hk, Nat.le_trans h.b hk, h.pa, h.pb⟩
theorem exprMan_b30 {e : List Node} (E : ExprOk e) (he : e.length ≤ 30) : ManB (exprMan e) 3000 := by
  have h := fold_man E (by omega) e ([], []) 0 (fun _ h => h) (man_nil 0)
  exact ⟨Nat.le_trans h.a (by omega), Nat.le_trans h.b (by omega), h.pa, h.pb⟩
theorem scopes_b (p : Pol) : ManB ([], scopesOf p) 3000 := by
  refine ⟨Nat.zero_le _, ?_, fun _ h => (nomatch h), fun x hx => ?_⟩
  · unfold scopesOf
    rw [List.length_append]
    split <;> split <;> simp
  · have h1 : PathOk "principal" := ⟨by decide +kernel, by decide +kernel⟩
    have h2 : PathOk "resource" := ⟨by decide +kernel, by decide +kernel⟩
    have hx' : x ∈ scopesOf p := hx
    unfold scopesOf at hx'
    rcases List.mem_append.mp hx' with h | h
    · split at h
      · rw [List.mem_singleton.mp h]; exact h1
      · cases h
    · split at h
      · rw [List.mem_singleton.mp h]; exact h2
      · cases h
theorem polMan_b {p : Pol} (E : ExprOk p.cond) (he : p.cond.length ≤ 30) : ManB (polMan p) 6000 := by
  have := joinMan_b (l := [([], scopesOf p), exprMan p.cond]) (k := 3000) fun t ht => by
    rcases List.mem_cons.mp ht with rfl | ht
    · exact scopes_b p
    · rw [List.mem_singleton.mp ht]; exact exprMan_b30 E he
  exact this
theorem manM_b {ps : List Pol} {k : Str × Str × Str} (E : ∀ p ∈ ps, ExprOk p.cond ∧ p.cond.length ≤ 30) (hl : ps.length ≤ 10) : ManB (manM ps k) 60000 := by
  have := joinMan_b (l := (ps.filter fun p => canApply p k).map polMan) (k := 6000) fun t ht => by
    obtain ⟨p, hp, rfl⟩ := List.mem_map.mp ht
    have := E p (List.mem_filter.mp hp).1
    exact polMan_b this.1 this.2
  rw [List.length_map] at this
  have hf := List.length_filter_le (fun p => canApply p k) ps
  exact ⟨Nat.le_trans this.a (by omega), Nat.le_trans this.b (by omega), this.pa, this.pb⟩
theorem bfs_in {par : Str → List Str} {u : Str} {U : List Str} (hpar : ∀ x y, y ∈ par x → y ∈ U) : ∀ (n : Nat) (f : List Str) (k : Nat), f.Nodup → (∀ x ∈ f, x = u ∨ x ∈ U) → (bfs par n f k).Nodup ∧ ∀ x ∈ bfs par n f k, x = u ∨ x ∈ U
  | 0, f, k, h1, h2 => ⟨h1, h2⟩
  | n + 1, f, k, h1, h2 => by
    unfold bfs
    split
    · exact ⟨h1, h2⟩
    · rename_i x _
      refine bfs_in hpar n _ _ (joinL_nodup _ _ h1) fun y hy => ?_
      rcases mem_joinL.mp hy with h | h
      · exact h2 y h
      · exact .inr (hpar _ _ h)
theorem anc_len {es : List Ent} (hok : DbOk es) (u : Str) : (anc es u).length ≤ 51 := by
  obtain ⟨U, hU, hUp⟩ := hok.uni
  have hpar : ∀ x y, y ∈ parOf es x → y ∈ U := by
    intro x y hy
    unfold parOf at hy
    cases hf : find es x with
    | none => rw [hf] at hy; cases hy
    | some e => rw [hf] at hy; exact hUp e (find_mem hf).1 y hy
  obtain ⟨h1, h2⟩ := bfs_in (u := u) hpar 60 [u] 0 (by simp) (by simp)
  have h3 : (bfs (parOf es) 60 [u] 0).length ≤ (u :: U).length := nodup_le h1 fun x hx => by
    rcases h2 x hx with rfl | h
    · simp
    · simp [h]
  unfold anc
  rw [(isort_perm _).length_eq, List.length_drop]
  rw [List.length_cons] at h3
  omega
theorem hier_len {es : List Ent} (hok : DbOk es) (rs : List Read) : (hierM es rs).length ≤ 52 * rs.length := by
  unfold hierM
  induction rs with
  | nil => simp
  | cons r rs ih =>
    rw [List.flatMap_cons, List.length_append, List.length_cons]
    cases r with
    | attr u n => simp only [List.length_nil]; omega
    | anc u => simp only [List.length_cons]; have := anc_len hok u; omega
/-! ### slices -/
theorem keep_good {rs : List Read} {hi : List Str} {e e' : Ent} (h : keepEnt rs hi e = some e') (g : EntGood e) : EntGood e' ∧ ∀ p ∈ e'.par, p ∈ e.par := by
  unfold keepEnt at h
  split at h
  · cases h
  · cases h
    have hpar : ∀ p ∈ (if e.uid ∈ hi then e.par else []), p ∈ e.par := by
      intro p hp
      split at hp
      · exact hp
      · cases hp
    refine ⟨⟨g.uid, ⟨fun q hq => g.attrs.names q (List.mem_filter.mp hq).1, fun q hq => g.attrs.vals q (List.mem_filter.mp hq).1, ?_, Nat.le_trans (List.length_filter_le _ _) g.attrs.len⟩, fun u hu => g.par u (hpar u hu), ?_, ?_⟩, hpar⟩
    · have h1 := rising_filter (fun n => decide (n ∈ namesFor rs e.uid)) g.attrs.rising
      rw [List.filter_map] at h1
      exact h1
    · show Rising (if e.uid ∈ hi then e.par else [])
      split
      · exact g.rising
      · intro i x y hx; simp at hx
    · show (if e.uid ∈ hi then e.par else []).length ≤ 6
      split
      · exact g.len
      · simp
theorem slice_ok {es : List Ent} (hok : DbOk es) (rq : Req) (m : Man) : DbOk (sliceM es rq m) where
  nodup := (slice_uids es rq m).nodup hok.nodup
  len := Nat.le_trans (List.length_filterMap_le _ _) hok.len
  good := fun e he => by
    obtain ⟨e0, h0, h1⟩ := List.mem_filterMap.mp he
    exact (keep_good h1 (hok.good e0 h0)).1
  uni := by
    obtain ⟨U, hU, hUp⟩ := hok.uni
    refine ⟨U, hU, fun e he p hp => ?_⟩
    obtain ⟨e0, h0, h1⟩ := List.mem_filterMap.mp he
    exact hUp e0 h0 p ((keep_good h1 (hok.good e0 h0)).2 p hp)
/-! ### following -/
theorem root_good {r u : Str} {rq : Req} (h : IsPath r r []) (hr : ReqGood rq) (e : rootUid r rq = some u) : isUid u = true := by
  have key : ∀ p r ns, IsPath p r ns → ns = [] → rootUid r rq = some u → isUid u = true := by
    intro p r ns h hn e
    cases h with
    | uid hu => rw [root_uid hu] at e; cases e; exact hu
    | prin => rw [root_prin] at e; cases e; exact hr.p
    | act => rw [root_act] at e; cases e; exact hr.a
    | res => rw [root_res] at e; cases e; exact hr.r
    | ctx hn' =>
      rw [root_ctx hn'] at e
      split at e
      · rename_i v hv
        cases e
        exact named_good hr.vals hv
      · cases e
    | ext _ _ => simp at hn
  exact key r r [] h rfl e
theorem follow_good {es : List Ent} (hok : DbOk es) : ∀ (ns : List Str) {u v : Str}, isUid u = true → followGo (tell es) ns u = some v → isUid v = true
  | [], u, v, hu, h => by cases h; exact hu
  | n :: ns, u, v, hu, h => by
    unfold followGo at h
    split at h
    · rename_i z hz
      have : isUid z = true := tell_good hok hz
      exact follow_good hok ns this h
    · cases h
theorem foll_good {es : List Ent} {rq : Req} (hok : DbOk es) (hr : ReqGood rq) {r v : Str} {ns : List Str} (hp : IsPath r r []) (h : follow r ns rq (tell es) = some v) : isUid v = true := by
  unfold follow at h
  cases e : rootUid r rq with
  | none => rw [e] at h; cases h
  | some u => rw [e] at h; exact follow_good hok ns (root_good hp hr e) h
theorem ends_ok {es : List Ent} {rq : Req} {m : Man} (hok : DbOk es) (hr : ReqGood rq) (hm : ManOk m) : ∀ r ∈ endsM m rq (tell es), readOk r = true := by
  intro r h
  unfold endsM at h
  rcases List.mem_append.mp h with h | h
  · obtain ⟨p, hp, e⟩ := List.mem_filterMap.mp h
    obtain ⟨rt, ns, n, hpath⟩ := hm.a p hp
    unfold endAttr at e
    rw [path_sp hpath] at e
    simp only at e
    cases q : follow rt (ns ++ [n]).dropLast rq (tell es) with
    | none => rw [q] at e; cases e
    | some u =>
      rw [q] at e
      cases e
      have h1 := foll_good hok hr hpath.root q
      have h2 := hpath.names n (by simp)
      simpa using read_attr h1 h2
  · obtain ⟨p, hp, e⟩ := List.mem_filterMap.mp h
    obtain ⟨rt, ns, hpath⟩ := hm.b p hp
    unfold endAnc at e
    rw [path_sp hpath] at e
    simp only at e
    cases q : follow rt ns rq (tell es) with
    | none => rw [q] at e; cases e
    | some u =>
      rw [q] at e
      cases e
      have h1 := foll_good hok hr hpath.root q
      exact read_anc h1
theorem ends_len (m : Man) (rq : Req) (tl : Read → Told) : (endsM m rq tl).length ≤ m.1.length + m.2.length := by
  unfold endsM
  rw [List.length_append]
  have h1 := List.length_filterMap_le (endAttr rq tl) m.1
  have h2 := List.length_filterMap_le (endAnc rq tl) m.2
  omega
theorem named_ok {es : List Ent} {rq : Req} {m : Man} (hok : DbOk es) (hr : ReqGood rq) (hm : ManOk m) : ∀ r ∈ namedM m rq (tell es), readOk r = true := fun r h => by
  rcases mem_joinL.mp h with h | h
  · cases h
  · exact ends_ok hok hr hm r h
theorem named_len (m : Man) (rq : Req) (tl : Read → Told) : (namedM m rq tl).length ≤ m.1.length + m.2.length := by
  have := joinL_len (endsM m rq tl) []
  have h2 := ends_len m rq tl
  unfold namedM
  simp only [List.length_nil, Nat.zero_add] at this
  omega
/-! ### outcomes -/
def OutOk : Out → Prop
  | .value v => ValGood v
  | .fails w => PyData.strOk w = true ∧ w.length ≤ 30
def ValsOk (vals : Vals') : Prop := ∀ (k : Nat) (v : Val), vals.getD k none = some v → ValGood v
theorem wk_ok : OutOk wrongKind := by show PyData.strOk ("wrong kind" : Str) = true ∧ Str.length ("wrong kind" : Str) ≤ 30; decide +kernel
theorem one_ok {es : List Ent} (hok : DbOk es) {w : One} {n : Str} {x : Val} (hn : isName n = true) (hx : ValGood x) : OutOk (oneOut (tell es) w n x).1 ∧ ∀ r, (oneOut (tell es) w n x).2 = some r → readOk r = true := by
  unfold oneOut
  split
  · rename_i u
    have hr : readOk (.attr u n) = true := read_attr hx hn
    cases w with
    | is_ => exact ⟨trivial, fun r h => by cases h⟩
    | has => exact ⟨trivial, fun r h => by cases h; exact hr⟩
    | get =>
      refine ⟨?_, fun r h => by cases h; exact hr⟩
      simp only
      split
      · rename_i z ht; exact tell_good hok ht
      · show PyData.strOk ("no entity" : Str) = true ∧ Str.length ("no entity" : Str) ≤ 30; decide +kernel
      · show PyData.strOk ("no attribute" : Str) = true ∧ Str.length ("no attribute" : Str) ≤ 30; decide +kernel
  · exact ⟨wk_ok, fun r h => by cases h⟩
theorem in_ok {tl : Read → Told} {x y : Val} (hx : ValGood x) : OutOk (inOut tl x y).1 ∧ ∀ r, (inOut tl x y).2 = some r → readOk r = true := by
  unfold inOut
  split
  · rename_i u us _
    have hr : readOk (.anc u) = true := read_anc hx
    split
    · exact ⟨trivial, fun r h => by cases h⟩
    · split
      · exact ⟨trivial, fun r h => by cases h⟩
      · exact ⟨trivial, fun r h => by cases h; exact hr⟩
  · exact ⟨wk_ok, fun r h => by cases h⟩
theorem two_ok {tl : Read → Told} {w : Two} {x y : Val} (hx : ValGood x) : OutOk (twoOut tl w x y).1 ∧ ∀ r, (twoOut tl w x y).2 = some r → readOk r = true := by
  cases w with
  | isin => exact in_ok hx
  | same => exact ⟨trivial, fun r h => by cases h⟩
  | less => refine ⟨?_, fun r h => by cases h⟩; unfold twoOut; simp only; split; exact trivial; exact wk_ok
  | contains => refine ⟨?_, fun r h => by cases h⟩; unfold twoOut; simp only; split; exact trivial; exact wk_ok
  | and => refine ⟨?_, fun r h => by cases h⟩; unfold twoOut; simp only; split; exact trivial; exact wk_ok
  | or => refine ⟨?_, fun r h => by cases h⟩; unfold twoOut; simp only; split; exact trivial; exact wk_ok
theorem node_ok {es : List Ent} {rq : Req} {vals : Vals'} {nd : Node} (hok : DbOk es) (hv : ValsOk vals) (hn : NodeOk nd) (hg : ∀ v, nd = Node.value v → ValGood v) (hr : ReqGood rq) :
    OutOk (nodeOut (tell es) rq vals nd).1 ∧ ∀ r, (nodeOut (tell es) rq vals nd).2 = some r → readOk r = true := by
  cases nd with
  | value v => exact ⟨hg v rfl, fun r h => by cases h⟩
  | prin => exact ⟨hr.p, fun r h => by cases h⟩
  | act => exact ⟨hr.a, fun r h => by cases h⟩
  | res => exact ⟨hr.r, fun r h => by cases h⟩
  | ctx n =>
    refine ⟨?_, fun r h => by cases h⟩
    show OutOk (leafOut rq (.ctx n))
    unfold leafOut
    simp only
    split
    · show PyData.strOk ("no attribute" : Str) = true ∧ Str.length ("no attribute" : Str) ≤ 30; decide +kernel
    · rename_i v hv; exact named_good hr.vals hv
  | given n => exact ⟨trivial, fun r h => by cases h⟩
  | one w i n =>
    unfold nodeOut
    simp only
    split
    · rename_i v hx; exact one_ok hok hn (hv _ _ hx)
    · exact ⟨wk_ok, fun r h => by cases h⟩
  | not_ i =>
    unfold nodeOut
    simp only
    split
    · rename_i v hx
      refine ⟨?_, fun r h => by cases h⟩
      simp only
      unfold notOut
      split
      · exact trivial
      · exact wk_ok
    · exact ⟨wk_ok, fun r h => by cases h⟩
  | two w i j =>
    unfold nodeOut
    simp only
    split
    · rename_i x y hx hy; exact two_ok (hv _ _ hx)
    · exact ⟨wk_ok, fun r h => by cases h⟩
  | ite i j k => exact ⟨wk_ok, fun r h => by cases h⟩
theorem vals_set {vals : Vals'} {k : Nat} {v : Val} (h : ValsOk vals) (hv : ValGood v) : ValsOk (vals.set k (some v)) := by
  intro j y hj
  rw [List.getD_eq_getElem?_getD] at hj
  by_cases hjk : k = j
  · subst hjk
    rw [List.getElem?_set] at hj
    simp only [if_true] at hj
    split at hj
    · cases hj; exact hv
    · cases hj
  · rw [List.getElem?_set_ne hjk, ← List.getD_eq_getElem?_getD] at hj
    exact h j y hj
theorem settle_good {e : List Node} {rl : List Role} : ∀ (f at_ : Nat) (vals : Vals'), ValsOk vals → ValsOk (settle e rl f at_ vals).2
  | 0, _, _, h => h
  | f + 1, at_, vals, h => by
    unfold settle
    split
    · rename_i p n v hr hv
      split
      · exact h
      · split
        · exact settle_good f p _ (vals_set h (h _ _ hv))
        · exact h
    · exact h
theorem note_ok {rs : List Read} {q : Option Read} (h : ∀ r ∈ rs, readOk r = true) (hq : ∀ r, q = some r → readOk r = true) : ∀ r ∈ noteRead rs q, readOk r = true := by
  cases q with
  | none => exact h
  | some x =>
    intro r hr
    unfold noteRead at hr
    simp only at hr
    split at hr
    · exact h r hr
    · rcases List.mem_append.mp hr with hr | hr
      · exact h r hr
      · rw [List.mem_singleton.mp hr]; exact hq x rfl
theorem note_le (rs : List Read) (q : Option Read) : (noteRead rs q).length ≤ rs.length + 1 := by
  cases q with
  | none => exact Nat.le_succ _
  | some r =>
    unfold noteRead
    simp only
    split
    · omega
    · rw [List.length_append, List.length_singleton]; omega
theorem run_ok {es : List Ent} {e : List Node} {rq : Req} (hok : DbOk es) (E : ExprOk e) (hg : ∀ nd ∈ e, ∀ v, nd = Node.value v → ValGood v) (hr : ReqGood rq) : ∀ (f at_ : Nat) (vals : Vals') (rs : List Read), ValsOk vals → (∀ r ∈ rs, readOk r = true) →
    OutOk (run e rq (tell es) f at_ vals rs).1 ∧ (∀ r ∈ (run e rq (tell es) f at_ vals rs).2, readOk r = true) ∧ (run e rq (tell es) f at_ vals rs).2.length ≤ rs.length + f
  | 0, _, _, rs, _, h => ⟨wk_ok, h, Nat.le_refl _⟩
  | f + 1, at_, vals, rs, hv, h => by
    have hnd : NodeOk (e.getD at_ .prin) ∧ ∀ v, e.getD at_ .prin = Node.value v → ValGood v := by
      cases q : e[at_]? with
      | none => rw [List.getD_eq_getElem?_getD, q]; exact ⟨trivial, fun v h => by cases h⟩
      | some nd =>
        rw [List.getD_eq_getElem?_getD, q]
        exact ⟨E.nodes nd (List.mem_of_getElem? q), hg nd (List.mem_of_getElem? q)⟩
    obtain ⟨h1, h2⟩ := node_ok hok hv hnd.1 hnd.2 hr
    unfold run
    cases hO : nodeOut (tell es) rq vals (e.getD at_ .prin) with
    | mk o q =>
      rw [hO] at h1 h2
      have hn := note_ok h h2
      have hl := note_le rs q
      cases o with
      | fails w => exact ⟨h1, hn, by show (noteRead rs q).length ≤ _; omega⟩
      | value v =>
        simp only
        have hs := settle_good (e := e) (rl := roles e) e.length at_ _ (vals_set (k := at_) hv h1)
        cases hS : settle e (roles e) e.length at_ (vals.set at_ (some v)) with
        | mk so vals2 =>
          rw [hS] at hs
          cases so with
          | none => exact ⟨wk_ok, hn, by show (noteRead rs q).length ≤ _; omega⟩
          | some s =>
            simp only
            split
            · refine ⟨?_, hn, by show (noteRead rs q).length ≤ _; omega⟩
              simp only
              split
              · rename_i x hx; exact hs _ _ hx
              · exact wk_ok
            · obtain ⟨a1, a2, a3⟩ := run_ok hok E hg hr f _ vals2 _ hs hn
              exact ⟨a1, a2, Nat.le_trans a3 (by show (noteRead rs q).length + f ≤ _; omega)⟩
theorem eval_ok {es : List Ent} {e : List Node} {rq : Req} (hok : DbOk es) (E : ExprOk e) (hg : ∀ nd ∈ e, ∀ v, nd = Node.value v → ValGood v) (hr : ReqGood rq) :
    OutOk (evalM e rq (tell es)).1 ∧ (∀ r ∈ (evalM e rq (tell es)).2, readOk r = true) ∧ (evalM e rq (tell es)).2.length ≤ e.length + 1 := by
  have := run_ok hok E hg hr (e.length + 1) 0 (List.replicate e.length none) [] (fun j v hj => by
    rw [List.getD_eq_getElem?_getD, List.getElem?_replicate] at hj
    split at hj <;> cases hj) (fun r h => by cases h)
  rw [List.length_nil, Nat.zero_add] at this
  exact this
end FF
set_option Elab.async false
set_option linter.all false
set_option maxHeartbeats 1000000
/-! the mathematics: an expression grows by a stack of tops -/
namespace FF
open PySem
theorem startsGo_app (nd : Node) : ∀ (l : List Node) (pl : List Nat), startsGo (l ++ [nd]) pl = startsGo l pl ++ [stOf nd (startsGo l pl)]
  | [], _ => rfl
  | x :: l, pl => by
    rw [List.cons_append, startsGo_cons, startsGo_cons]
    exact startsGo_app nd l _
theorem starts_app (e : List Node) (nd : Node) : starts (e ++ [nd]) = starts e ++ [stOf nd (starts e)] := startsGo_app nd e []
theorem st_old {e : List Node} {nd : Node} {k : Nat} (h : k < e.length) : st (e ++ [nd]) k = st e k := by
  unfold st
  rw [starts_app]
  have : k < (starts e).length := by rw [starts_len]; exact h
  simp [List.getD, List.getElem?_append_left this]
theorem st_new (e : List Node) (nd : Node) : st (e ++ [nd]) e.length = stOf nd (starts e) := by
  unfold st
  rw [starts_app]
  have : (starts e ++ [stOf nd (starts e)])[e.length]? = some (stOf nd (starts e)) := by
    rw [← starts_len e]; simp
  simp only [List.getD, this, Option.getD_some]
/-- tops, the last first: each begins where the one before ends -/
def Chain (e : List Node) : List Nat → Nat → Prop
  | [], n => n = 0
  | t :: r, n => n = t + 1 ∧ Chain e r (st e t)
theorem chain_old {e : List Node} (W : WF e) {nd : Node} : ∀ {ts : List Nat} {n : Nat}, n ≤ e.length → Chain e ts n → Chain (e ++ [nd]) ts n
  | [], _, _, h => h
  | t :: r, n, hn, ⟨h1, h2⟩ => by
    have ht : t < e.length := by omega
    have := st_le W ht
    refine ⟨h1, ?_⟩
    rw [st_old ht]
    exact chain_old W (by omega) h2
theorem tight_old {e : List Node} (W : WF e) {nd x : Node} {k : Nat} (h : e[k]? = some x) : Tight (starts (e ++ [nd])) k x := by
  have hk := lt_of_some h
  have w := W k x h
  have g : ∀ j, j < e.length → (starts (e ++ [nd])).getD j 0 = (starts e).getD j 0 := fun j hj => st_old hj
  unfold Tight at w ⊢
  split at w
  · trivial
  · exact w
  · rename_i i j ho
    obtain ⟨w1, w2⟩ := w
    exact ⟨by rw [g j (by omega)]; exact w1, w2⟩
  · rename_i i j l ho
    obtain ⟨w1, w2, w3⟩ := w
    have := st_le W (k := l) (by omega)
    have w2' : j + 1 = st e l := w2
    exact ⟨by rw [g j (by omega)]; exact w1, by rw [g l (by omega)]; exact w2, w3⟩
  · exact w.elim
structure Grown (e : List Node) (ts : List Nat) : Prop where
  wf : WF e
  ch : Chain e ts e.length
theorem wf_app {e : List Node} {nd : Node} (W : WF e) (h : Tight (starts (e ++ [nd])) e.length nd) : WF (e ++ [nd]) := by
  intro k x hx
  rcases Nat.lt_or_ge k e.length with hk | hk
  · rw [List.getElem?_append_left hk] at hx
    exact tight_old W hx
  · rw [List.getElem?_append_right hk] at hx
    have hk0 : k - e.length = 0 := by
      rcases Nat.eq_zero_or_pos (k - e.length) with h0 | h0
      · exact h0
      · rw [List.getElem?_eq_none (by rw [List.length_singleton]; exact h0)] at hx; cases hx
    rw [hk0] at hx
    have e1 : k = e.length := by omega
    subst e1
    have e2 : nd = x := by simpa using hx
    subst e2
    exact h
theorem grown_nil : Grown [] [] := ⟨fun k nd h => by simp at h, rfl⟩
theorem grown0 {e : List Node} {ts : List Nat} {nd : Node} (g : Grown e ts) (ho : ops nd = []) : Grown (e ++ [nd]) (e.length :: ts) := by
  refine ⟨wf_app g.wf (by unfold Tight; rw [ho]; trivial), by simp, ?_⟩
  rw [st_new]
  unfold stOf
  rw [ho]
  simp only [starts_len]
  exact chain_old g.wf (Nat.le_refl _) g.ch
theorem grown1 {e : List Node} {r : List Nat} {a : Nat} {nd : Node} (g : Grown e (a :: r)) (ho : ops nd = [a]) : Grown (e ++ [nd]) (e.length :: r) := by
  obtain ⟨W, h1, h2⟩ := g
  have ha := st_le W (k := a) (by omega)
  refine ⟨wf_app W (by unfold Tight; rw [ho]; exact h1.symm), by simp, ?_⟩
  rw [st_new]
  unfold stOf
  rw [ho]
  exact chain_old W (by show st e a ≤ _; omega) h2
theorem grown2 {e : List Node} {r : List Nat} {a b : Nat} {nd : Node} (g : Grown e (a :: b :: r)) (ho : ops nd = [b, a]) : Grown (e ++ [nd]) (e.length :: r) := by
  obtain ⟨W, h1, h2, h3⟩ := g
  have ha := st_le W (k := a) (by omega)
  have hb := st_le W (k := b) (by omega)
  refine ⟨wf_app W (by unfold Tight; rw [ho]; exact ⟨by show b + 1 = st (e ++ [nd]) a; rw [st_old (by omega)]; exact h2.symm, h1.symm⟩), by simp, ?_⟩
  rw [st_new]
  unfold stOf
  rw [ho]
  exact chain_old W (by show st e b ≤ _; omega) h3
theorem grown3 {e : List Node} {r : List Nat} {a b c : Nat} {nd : Node} (g : Grown e (a :: b :: c :: r)) (ho : ops nd = [c, b, a]) : Grown (e ++ [nd]) (e.length :: r) := by
  obtain ⟨W, h1, h2, h3, h4⟩ := g
  have ha := st_le W (k := a) (by omega)
  have hb := st_le W (k := b) (by omega)
  have hc := st_le W (k := c) (by omega)
  refine ⟨wf_app W (by unfold Tight; rw [ho]; exact ⟨by show c + 1 = st (e ++ [nd]) b; rw [st_old (by omega)]; exact h3.symm, by show b + 1 = st (e ++ [nd]) a; rw [st_old (by omega)]; exact h2.symm, h1.symm⟩), by simp, ?_⟩
  rw [st_new]
  unfold stOf
  rw [ho]
  exact chain_old W (by show st e c ≤ _; omega) h4
end FF
set_option Elab.async false
set_option linter.all false
set_option maxRecDepth 100000
set_option maxHeartbeats 4000000
/-! what each def promises, part 2: paths, slices, policies, deciding, manifests -/
namespace FF
open PySem PySem.Spec PyProof.Rows L2
def encFol : Option Str → PyData
  | none => .tuple [.str "nowhere"]
  | some u => .tuple [.str "to", .str u]
def uidV : Option Str → V
  | none => .non
  | some u => .str u
/-- what a policy of the law is -/
structure PolG (p : Pol) : Prop where
  id : PyData.strOk p.id = true ∧ p.id.length ≤ 30
  ok : ExprOk p.cond
  len : p.cond.length ≤ 30
  acts : ∀ l, p.acts = some l → l.length ≤ 1000
  pr : PolGood.ScopeGood p.pr
  rs : PolGood.ScopeGood p.rs
  vals : ∀ nd ∈ p.cond, ∀ v, nd = Node.value v → ValGood v
structure PolsG (ps : List Pol) : Prop where
  all : ∀ p ∈ ps, PolG p
  len : ps.length ≤ 10
section
variable (K : PySem.W.Frag)
def sp_split_path : Sp := fun vs H Q _ => ∃ p r ns, vs = [.str p] ∧ IsPath p r ns ∧ p.length ≤ 2000 ∧ ∀ u H', Same H H' → Dp K H' u (.tuple [.str r, encStrs ns]) → Q u H'
def sp_extended : Sp := fun vs H Q _ => ∃ v ps n, vs = [v, .str n] ∧ Dp K H v (encStrs ps) ∧ (∀ p ∈ ps, p.length ≤ 2000) ∧ n.length ≤ 12 ∧ ps.length ≤ 1000 ∧ ∀ u H', Same H H' → Dp K H' u (encStrs (extd ps n)) → Q u H'
def sp_paths_of : Sp := fun vs H Q _ => ∃ v a xs nd known, vs = [v, .ref a] ∧ Dp K H v (encNode nd) ∧ H a = some (.lst xs) ∧ DpAll K H xs (known.map encStrs) ∧ (∀ o ∈ ops nd, o < known.length) ∧ NodeOk nd ∧ (∀ l ∈ known, l.length ≤ 1000 ∧ ∀ p ∈ l, PathOk p) ∧
  ∀ u H', Same H H' → Dp K H' u (encStrs (pathsOf known nd)) → Q u H'
def sp_node_paths : Sp := fun vs H Q _ => ∃ v e, vs = [v] ∧ Dp K H v (encExpr e) ∧ ExprOk e ∧ e.length ≤ 100 ∧ ∀ D H' xs, Same H H' → H D = none → H' D = some (.lst xs) → DpAll K H' xs ((nodePaths e).map encStrs) → Q (.ref D) H'
def sp_expression_manifest : Sp := fun vs H Q _ => ∃ v e, vs = [v] ∧ Dp K H v (encExpr e) ∧ ExprOk e ∧ e.length ≤ 100 ∧ ∀ u H', Same H H' → Dp K H' u (encMan (exprMan e)) → Q u H'
def sp_root_uid : Sp := fun vs H Q _ => ∃ r q rq, vs = [.str r, q] ∧ Dp K H q (encReq rq) ∧ IsPath r r [] ∧ r.length ≤ 2000 ∧ ∀ H', Same H H' → Q (uidV (rootUid r rq)) H'
def sp_follow : Sp := fun vs H Q _ => ∃ r vn q a ns rq es, vs = [.str r, vn, q, .ref a] ∧ Dp K H vn (encStrs ns) ∧ Dp K H q (encReq rq) ∧ DbAt K H a es ∧ IsPath r r [] ∧ r.length ≤ 2000 ∧ ∀ u H', Same H H' → Dp K H' u (encFol (follow r ns rq (tell es))) → Q u H'
def encEnd (r : Read) : PyData := .tuple [encRead r, .bool true]
def sp_ends : Sp := fun vs H Q _ => ∃ vm q a m rq es, vs = [vm, q, .ref a] ∧ Dp K H vm (encMan m) ∧ Dp K H q (encReq rq) ∧ DbAt K H a es ∧ ManOk m ∧ ManB m 60000 ∧ ∀ u H', Same H H' → Dp K H' u (.list ((endsM m rq (tell es)).map encEnd)) → Q u H'
def sp_named_reads : Sp := fun vs H Q _ => ∃ vm q a m rq es, vs = [vm, q, .ref a] ∧ Dp K H vm (encMan m) ∧ Dp K H q (encReq rq) ∧ DbAt K H a es ∧ ReqGood rq ∧ ManOk m ∧ ManB m 60000 ∧ ∀ D H', Same H H' → H D = none → Dp K H' (.ref D) (.list ((namedM m rq (tell es)).map encRead)) → Q (.ref D) H'
def sp_hierarchy : Sp := fun vs H Q _ => ∃ a v es rs, vs = [.ref a, v] ∧ DbAt K H a es ∧ Dp K H v (.list (rs.map encRead)) ∧ (hierM es rs).length ≤ 10000000 ∧ ∀ D H', Same H H' → H D = none → Dp K H' (.ref D) (.list ((hierM es rs).map PyData.str)) → Q (.ref D) H'
def sp_slice_of : Sp := fun vs H Q _ => ∃ a q vm es rq m, vs = [.ref a, q, vm] ∧ DbAt K H a es ∧ Dp K H q (encReq rq) ∧ Dp K H vm (encMan m) ∧ ReqGood rq ∧ ManOk m ∧ ManB m 60000 ∧ ∀ D H' es', Same H H' → es'.Perm (sliceM es rq m) → DbAt K H' D es' → Q (.ref D) H'
def sp_in_scope : Sp := fun vs H Q _ => ∃ v u a sc es, vs = [v, .str u, .ref a] ∧ Dp K H v (encScope sc) ∧ isUid u = true ∧ PolGood.ScopeGood sc ∧ DbAt K H a es ∧ ∀ r H', Same H H' → Dp K H' r (.tuple [encOut (truth (inScope sc u (tell es)).1), encReads (inScope sc u (tell es)).2]) → Q r H'
def sp_condition_state : Sp := fun vs H Q _ => ∃ v o, vs = [v] ∧ Dp K H v (encOut o) ∧ OutOk o ∧ ∀ u H', Same H H' → Dp K H' u (encSt (condSt o)) → Q u H'
def sp_policy_state : Sp := fun vs H Q _ => ∃ v q a p rq es, vs = [v, q, .ref a] ∧ Dp K H v (encPol p) ∧ Dp K H q (encReq rq) ∧ DbAt K H a es ∧ PolG p ∧ ReqGood rq ∧ ∀ u H', Same H H' → Dp K H' u (.tuple [encSt (polSt p rq (tell es)).1, encReads (polSt p rq (tell es)).2]) → Q u H'
def sp_fits : Sp := fun vs H Q _ => ∃ v k sc, vs = [v, .str k] ∧ Dp K H v (encScope sc) ∧ PolGood.ScopeGood sc ∧ ∀ H', Same H H' → Q (.bl (fits sc k)) H'
def sp_can_apply : Sp := fun vs H Q _ => ∃ v c p k, vs = [v, c] ∧ Dp K H v (encPol p) ∧ Dp K H c (encKind k) ∧ PolG p ∧ ∀ H', Same H H' → Q (.bl (canApply p k)) H'
def encPS (q : Pol × St) : PyData := .tuple [encPol q.1, encSt q.2]
def sp_decision : Sp := fun vs H Q _ => ∃ v l, vs = [v] ∧ Dp K H v (.list (l.map encPS)) ∧ l.length ≤ 1000 ∧ ∀ u H', Same H H' → Dp K H' u (encDec (decisionM l)) → Q u H'
def sp_decide : Sp := fun vs H Q _ => ∃ v q a ps rq es, vs = [v, q, .ref a] ∧ Dp K H v (.list (ps.map encPol)) ∧ Dp K H q (encReq rq) ∧ DbAt K H a es ∧ PolsG ps ∧ ReqGood rq ∧
  ∀ u H', Same H H' → Dp K H' u (.tuple [encDec (decideM ps rq (tell es)).1, encReads (decideM ps rq (tell es)).2, .none]) → Q u H'
def sp_join_manifests : Sp := fun vs H Q _ => ∃ v l n, vs = [v] ∧ Dp K H v (.list (l.map encMan)) ∧ (∀ m ∈ l, ManB m n) ∧ n * l.length + n ≤ 10000000 ∧ ∀ u H', Same H H' → Dp K H' u (encMan (joinMan l)) → Q u H'
def sp_policy_manifest : Sp := fun vs H Q _ => ∃ v p, vs = [v] ∧ Dp K H v (encPol p) ∧ PolG p ∧ ∀ u H', Same H H' → Dp K H' u (encMan (polMan p)) → Q u H'
def sp_manifest : Sp := fun vs H Q _ => ∃ v c ps k, vs = [v, c] ∧ Dp K H v (.list (ps.map encPol)) ∧ Dp K H c (encKind k) ∧ PolsG ps ∧ ∀ u H', Same H H' → Dp K H' u (encMan (manM ps k)) → Q u H'
end
abbrev O_split_path (P : Program) (w : World) (K : PySem.W.Frag) (mg : Str → Option Value) (base : Heap) : Prop := FOk P w K mg base 1 (He.ga K "split_path") ["path"] [] (sp_split_path K)
abbrev O_extended (P : Program) (w : World) (K : PySem.W.Frag) (mg : Str → Option Value) (base : Heap) : Prop := FOk P w K mg base 1 (He.ga K "_extended") ["paths", "name"] [] (sp_extended K)
abbrev O_paths_of (P : Program) (w : World) (K : PySem.W.Frag) (mg : Str → Option Value) (base : Heap) : Prop := FOk P w K mg base 2 (He.ga K "_paths_of") ["node", "known"] [] (sp_paths_of K)
abbrev O_node_paths (P : Program) (w : World) (K : PySem.W.Frag) (mg : Str → Option Value) (base : Heap) : Prop := FOk P w K mg base 3 (He.ga K "node_paths") ["expression"] [] (sp_node_paths K)
abbrev O_expression_manifest (P : Program) (w : World) (K : PySem.W.Frag) (mg : Str → Option Value) (base : Heap) : Prop := FOk P w K mg base 4 (He.ga K "expression_manifest") ["expression"] [] (sp_expression_manifest K)
abbrev O_root_uid (P : Program) (w : World) (K : PySem.W.Frag) (mg : Str → Option Value) (base : Heap) : Prop := FOk P w K mg base 3 (He.ga K "_root_uid") ["root", "request"] [] (sp_root_uid K)
abbrev O_follow (P : Program) (w : World) (K : PySem.W.Frag) (mg : Str → Option Value) (base : Heap) : Prop := FOk P w K mg base 4 (He.ga K "follow") ["root", "names", "request", "source"] [] (sp_follow K)
abbrev O_ends (P : Program) (w : World) (K : PySem.W.Frag) (mg : Str → Option Value) (base : Heap) : Prop := FOk P w K mg base 5 (He.ga K "_ends") ["manifest", "request", "source"] [] (sp_ends K)
abbrev O_named_reads (P : Program) (w : World) (K : PySem.W.Frag) (mg : Str → Option Value) (base : Heap) : Prop := FOk P w K mg base 6 (He.ga K "named_reads") ["manifest", "request", "database"] [] (sp_named_reads K)
abbrev O_hierarchy (P : Program) (w : World) (K : PySem.W.Frag) (mg : Str → Option Value) (base : Heap) : Prop := FOk P w K mg base 3 (He.ga K "_hierarchy") ["database", "reads"] [] (sp_hierarchy K)
abbrev O_slice_of (P : Program) (w : World) (K : PySem.W.Frag) (mg : Str → Option Value) (base : Heap) : Prop := FOk P w K mg base 9 (He.ga K "slice_of") ["database", "request", "manifest"] [] (sp_slice_of K)
abbrev O_in_scope (P : Program) (w : World) (K : PySem.W.Frag) (mg : Str → Option Value) (base : Heap) : Prop := FOk P w K mg base 4 (He.ga K "in_scope") ["scope", "uid", "source"] [] (sp_in_scope K)
abbrev O_condition_state (P : Program) (w : World) (K : PySem.W.Frag) (mg : Str → Option Value) (base : Heap) : Prop := FOk P w K mg base 1 (He.ga K "_condition_state") ["outcome"] [] (sp_condition_state K)
abbrev O_policy_state (P : Program) (w : World) (K : PySem.W.Frag) (mg : Str → Option Value) (base : Heap) : Prop := FOk P w K mg base 10 (He.ga K "policy_state") ["policy", "request", "source"] [] (sp_policy_state K)
abbrev O_fits (P : Program) (w : World) (K : PySem.W.Frag) (mg : Str → Option Value) (base : Heap) : Prop := FOk P w K mg base 2 (He.ga K "_fits") ["scope", "kind"] [] (sp_fits K)
abbrev O_can_apply (P : Program) (w : World) (K : PySem.W.Frag) (mg : Str → Option Value) (base : Heap) : Prop := FOk P w K mg base 3 (He.ga K "can_apply") ["policy", "kind"] [] (sp_can_apply K)
abbrev O_decision (P : Program) (w : World) (K : PySem.W.Frag) (mg : Str → Option Value) (base : Heap) : Prop := FOk P w K mg base 1 (He.ga K "_decision") ["states"] [] (sp_decision K)
abbrev O_decide (P : Program) (w : World) (K : PySem.W.Frag) (mg : Str → Option Value) (base : Heap) : Prop := FOk P w K mg base 11 (He.ga K "decide") ["policies", "request", "source"] [] (sp_decide K)
abbrev O_join_manifests (P : Program) (w : World) (K : PySem.W.Frag) (mg : Str → Option Value) (base : Heap) : Prop := FOk P w K mg base 2 (He.ga K "join_manifests") ["manifests"] [] (sp_join_manifests K)
abbrev O_policy_manifest (P : Program) (w : World) (K : PySem.W.Frag) (mg : Str → Option Value) (base : Heap) : Prop := FOk P w K mg base 5 (He.ga K "policy_manifest") ["policy"] [] (sp_policy_manifest K)
abbrev O_manifest (P : Program) (w : World) (K : PySem.W.Frag) (mg : Str → Option Value) (base : Heap) : Prop := FOk P w K mg base 6 (He.ga K "manifest") ["policies", "kind"] [] (sp_manifest K)
end FF
set_option Elab.async false
set_option linter.all false
set_option maxRecDepth 100000
set_option maxHeartbeats 4000000
namespace FF
open PySem PySem.Spec PyProof.Rows L2
local macro_rules | `(tactic| walk_at "r") => `(tactic| repeat (first
   | refine ⟨_, rfl, ?_⟩
   | refine ⟨_, _, rfl, rfl, ?_⟩
   | refine ⟨rfl, ?_⟩
   | refine rixT (by assumption) rfl ?_
   | refine rixL (by assumption) rfl ?_
   | refine ifT (by decide +kernel) ?_
   | refine ifF (by decide +kernel) ?_))
section
variable {P : Program} {w : World} {K : PySem.W.Frag} {mg : Str → Option Value} {base : Heap}

theorem map_drop_str (l : List Str) (n : Nat) : (l.map V.str).drop n = (l.drop n).map V.str := by rw [List.map_drop]
theorem ok_split_path (T : Top w K mg) : O_split_path P w K mg base := by
  refine mk_ok (f_split_path T) sc_split_path rfl rfl (fun _ _ _ _ _ _ us hl => match us, hl with | [_], _ => rfl) (fun vs H Q E h => ?_) (fun f cdv A outer s H vs Q E hr h => ?_)
  · obtain ⟨p, r, ns, rfl, _⟩ := h
    rfl
  · obtain ⟨z, r, ns, rfl, hp, hz, k⟩ := h
    have sc := sc_split_path
    refine ⟨_, (pss_cons (ps_set (i := 1) sc.nd rfl (Or.inl rfl) (pe_split (pv 0) pe_str))
      (pss_cons (ps_if (pt_cmpR op_eq (pe_ix ix_seq (pv 1) pe_int (fun _ _ => rfl)) (pe_gstr (c_CONTEXT T)) (nomark _))
      (pss_one (ps_ret (pe_tup (pa_cons (pe_op op_add_str (pe_op op_add_str (pe_gstr (c_CONTEXT T)) pe_str) (pe_ix ix_seq (pv 1) pe_int (fun _ _ => rfl))) (pa_cons (pe_callTy call_tuple_of (by rfl) (n_tuple T) (by decide +kernel) (pa_cons (pe_slice sl_any (pv 1) (po_some pe_int) po_none) pa_nil)) pa_nil)))))
      pss_nil)
      (pss_one (ps_ret (pe_tup (pa_cons (pe_ix ix_seq (pv 1) pe_int (fun _ _ => rfl)) (pa_cons (pe_callTy call_tuple_of (by rfl) (n_tuple T) (by decide +kernel) (pa_cons (pe_slice sl_any (pv 1) (po_some pe_int) po_none) pa_nil)) pa_nil))))))), ?_⟩
    refine ⟨_, rfl, ⟨_, rfl⟩, _, _, rfl, rfl, rfl, Nat.le_trans (Nat.add_le_add_right hz 2) (by decide), fun p hp0 => ?_⟩
    have hL : SqL K (upd H p (.lst ((Txt.split z ("." : Str)).map V.str))) p ((splitC 46 z).map V.str) := by rw [← split_dot]; exact SqL.of upd_same
    have hS := same_new (o := .lst ((Txt.split z ("." : Str)).map V.str)) hp0
    rcases path_split hp with ⟨b, e, hb, hs⟩ | ⟨e, hs⟩
    · rw [hs] at hL
      refine ⟨_, rfl, rixL hL (atI_nat (j := 0) rfl) ⟨rfl, _, rfl, ifT (by decide +kernel) ?_⟩⟩
      have hb12 := name_len hb
      have hc7 : (("context" : Str)).length = 7 := by decide +kernel
      refine ⟨_, _, rfl, rfl, by decide +kernel, _, rfl, rixL hL (atI_nat (j := 1) rfl) ⟨_, _, rfl, rfl, ?_, ?_⟩⟩
      · rw [len_app, len_dot, hc7]
        exact szl (by omega)
      · refine ⟨_, rfl, _, rfl, slL hL fun p2 H2 hS2 hp20 hp2 => ?_⟩
        rw [show (some (2 : Int)) = some ((2 : Nat) : Int) from rfl, cutV_drop] at hp2
        refine ⟨p2, _, rfl, .inl ⟨sqN hp2, fun l hl => ⟨by show 2 ≤ sizeLine; decide, fun q hq => ?_⟩⟩⟩
        refine k _ _ (hS.trans (hS2.trans ((same_new hl).trans (same_new hq)))) (dp_new hq (.cons ?_ (.cons (dp_new hl (dpAll_ofStrs ns)) .nil)))
        rw [e]
        exact .str _
    · rw [hs] at hL
      refine ⟨_, rfl, rixL hL (atI_nat (j := 0) rfl) ⟨rfl, _, rfl, ifF (by simp [e]) ?_⟩⟩
      refine ⟨_, rfl, rixL hL (atI_nat (j := 0) rfl) ⟨_, rfl, _, rfl, slL hL fun p2 H2 hS2 hp20 hp2 => ?_⟩⟩
      rw [show (some (1 : Int)) = some ((1 : Nat) : Int) from rfl, cutV_drop] at hp2
      refine ⟨p2, _, rfl, .inl ⟨sqN hp2, fun l hl => ⟨by show 2 ≤ sizeLine; decide, fun q hq => ?_⟩⟩⟩
      exact k _ _ (hS.trans (hS2.trans ((same_new hl).trans (same_new hq)))) (dp_new hq (.cons (.str _) (.cons (dp_new hl (dpAll_ofStrs ns)) .nil)))
theorem ok_extended (T : Top w K mg) : O_extended P w K mg base := by
  refine mk_ok (f_extended T) sc_extended rfl rfl (fun _ _ _ _ _ _ us hl => match us, hl with | [_, _], _ => rfl) (fun vs H Q E h => ?_) (fun f cdv A outer s H vs Q E hr h => ?_)
  · obtain ⟨v, ps, n, rfl, _⟩ := h
    rfl
  · obtain ⟨v, ps, n, rfl, hd, hp, hn, hl, k⟩ := h
    have sc := sc_extended
    refine ⟨_, (pss_one (ps_ret (pe_callTy call_tuple_of (by rfl) (n_tuple T) (by decide +kernel) (pa_cons (pe_lc (own := [("path", 2)]) rfl sc.nd (pi_tup (pv 0)) (blkOk_by (own := [("path", 2)]) (N := N_extended) (sc := defScope s_extended) (by decide +kernel)) (fun _ _ _ _ _ => (pg_name (i := 2) sc.nd rfl (Or.inl rfl))) (fun _ _ _ _ _ => pts_nil) (fun _ _ _ _ _ => (pe_op op_add_str (pe_op op_add_str (pv 2) pe_str) (pv 1)))) pa_nil)))), ?_⟩
    obtain ⟨a, xs, rfl, hq, hx⟩ := dp_tup hd
    obtain rfl := dpAll_strs hx
    refine ⟨_, rfl, a, rfl, ⟨_, hq⟩, fun D hD => lc_it walk_tup (fun i H2 => Same H H2 ∧ H2 D = some (.lst ((extd (ps.take i) n).map V.str))) ⟨same_new hD, upd_same⟩ (fun _ _ _ h => sqT_same h.1 hq) ?_ ?_⟩
    · rintro i z H2 H3 hi ⟨hS2, hL⟩ ⟨rfl, hz⟩
      obtain ⟨p, hpi, rfl⟩ := map_at hz
      have hp' := hp p (mem_at hpi)
      refine ⟨rfl, tyes rfl ⟨_, rfl, _, _, rfl, rfl, ?_, _, rfl, _, _, rfl, rfl, ?_, _, hL, ?_, same_mut hS2 hD, ?_⟩⟩
      · rw [len_dot]; exact szl (by omega)
      · rw [len_app, len_dot]; exact szl (by omega)
      · unfold extd
        rw [List.length_map, List.length_map, List.length_take]
        exact szlt (by omega)
      · rw [upd_same, List.take_add_one, hpi]
        unfold extd
        simp
    · rintro H2 ⟨hS2, hL⟩
      rw [List.take_of_length_le (by rw [List.length_map]; exact Nat.le_refl _)] at hL
      exact ⟨D, _, rfl, .inl ⟨sqN hL, fun l hl => k _ _ (hS2.trans (same_new hl)) (dp_new hl (dpAll_ofStrs _))⟩⟩
theorem all_txt {l : List Str} (h : ∀ p ∈ l, PathOk p) : (l.map PyData.str).all txt1 = true := by
  rw [List.all_map, List.all_eq_true]
  exact fun p hp => (h p hp).1
theorem ok_paths_of (T : Top w K mg) (h_extended : O_extended P w K mg base) (h_join_reads : O_join_reads P w K mg base) : O_paths_of P w K mg base := by
  refine mk_ok (f_paths_of T) sc_paths_of rfl rfl (fun _ _ _ _ _ _ us hl => match us, hl with | [_, _], _ => rfl) (fun vs H Q E h => ?_) (fun f cdv A outer s H vs Q E hr h => ?_)
  · obtain ⟨v, a, xs, nd, known, rfl, _⟩ := h
    rfl
  · obtain ⟨v, a, xs, nd, known, rfl, hd, ha, hx, hops, hok, hkn, k⟩ := h
    have sc := sc_paths_of
    refine ⟨_, (pss_cons (ps_if (pt_cmpR op_eq (pe_ix ix_seq (pv 0) pe_int (fun _ _ => rfl)) pe_str (nomark _))
      (pss_one (ps_ret (pe_ifExp (pt_cmpR op_eq (pe_ix ix_seq (pe_ix ix_seq (pv 0) pe_int (fun _ _ => rfl)) pe_int (fun _ _ => rfl)) pe_str (nomark _)) (pe_tup (pa_cons (pe_ix ix_seq (pe_ix ix_seq (pv 0) pe_int (fun _ _ => rfl)) pe_int (fun _ _ => rfl)) pa_nil)) (pe_tup pa_nil))))
      pss_nil)
      (pss_cons (ps_if (PW.pt (pw_or (pt_cmpR op_eq (pe_ix ix_seq (pv 0) pe_int (fun _ _ => rfl)) pe_str (nomark _)) (pw_or (pt_cmpR op_eq (pe_ix ix_seq (pv 0) pe_int (fun _ _ => rfl)) pe_str (nomark _)) (pw_or1 (pt_cmpR op_eq (pe_ix ix_seq (pv 0) pe_int (fun _ _ => rfl)) pe_str (nomark _))))))
      (pss_one (ps_ret (pe_tup (pa_cons (pe_ix ix_seq (pv 0) pe_int (fun _ _ => rfl)) pa_nil))))
      pss_nil)
      (pss_cons (ps_if (pt_cmpR op_eq (pe_ix ix_seq (pv 0) pe_int (fun _ _ => rfl)) (pe_gstr (c_CONTEXT T)) (nomark _))
      (pss_one (ps_ret (pe_tup (pa_cons (pe_op op_add_str (pe_op op_add_str (pe_gstr (c_CONTEXT T)) pe_str) (pe_ix ix_seq (pv 0) pe_int (fun _ _ => rfl))) pa_nil))))
      pss_nil)
      (pss_cons (ps_if (pt_cmpR op_eq (pe_ix ix_seq (pv 0) pe_int (fun _ _ => rfl)) pe_str (nomark _))
      (pss_one (ps_ret (pe_u h_extended hr rfl (g_extended T) (pa_cons (pe_ix ix_seq (pv 1) (pe_ix ix_seq (pv 0) pe_int (fun _ _ => rfl)) (fun _ _ => rfl)) (pa_cons (pe_ix ix_seq (pv 0) pe_int (fun _ _ => rfl)) pa_nil)))))
      pss_nil)
      (pss_cons (ps_if (pt_cmpR op_eq (pe_ix ix_seq (pv 0) pe_int (fun _ _ => rfl)) pe_str (nomark _))
      (pss_one (ps_ret (pe_callTy call_tuple_of (by rfl) (n_tuple T) (by decide +kernel) (pa_cons (pe_u h_join_reads hr rfl (g_join_reads T) (pa_cons (pe_ix ix_seq (pv 1) (pe_ix ix_seq (pv 0) pe_int (fun _ _ => rfl)) (fun _ _ => rfl)) (pa_cons (pe_ix ix_seq (pv 1) (pe_ix ix_seq (pv 0) pe_int (fun _ _ => rfl)) (fun _ _ => rfl)) pa_nil))) pa_nil))))
      pss_nil)
      (pss_one (ps_ret (pe_tup pa_nil)))))))), ?_⟩
    have kn : ∀ o, o < known.length → ∃ v, xs[o]? = some v ∧ Dp K H v (encStrs (known.getD o [])) ∧ (known.getD o []).length ≤ 1000 ∧ ∀ p ∈ known.getD o [], PathOk p := fun o ho => by
      have : known[o]? = some (known.getD o []) := by
        rw [List.getD_eq_getElem?_getD, List.getElem?_eq_getElem ho]
        rfl
      obtain ⟨v, h1, h2⟩ := enc_get hx this
      exact ⟨v, h1, h2, hkn _ (mem_at this)⟩
    have none' : pathsOf known nd = [] → ∀ p, H p = none → Q (.ref p) (upd H p (.tup [])) := fun e p hp => by
      refine k _ _ (same_new hp) ?_
      rw [e]
      exact dp_new hp .nil
    cases nd with
    | value x =>
      obtain ⟨b, z1, z2, rfl, hq, h1, h2⟩ := dp2 hd
      obtain rfl := dpS h1
      obtain ⟨c, y, rfl, hc, hy⟩ := val_hd h2
      refine ⟨_, rfl, rixT hq rfl ⟨rfl, _, rfl, ifT (by decide +kernel) ?_⟩⟩
      refine ⟨_, rfl, rixT hq rfl (rixT hc rfl ⟨rfl, _, rfl, ?_⟩)⟩
      by_cases hv : ∃ u, x = .sc (.en u)
      · obtain ⟨u, rfl⟩ := hv
        obtain rfl : y = V.str u := dpS hy
        exact ifT (by simp [valW, scW]) ⟨_, rfl, rixT hq rfl (rixT hc rfl ⟨by show 1 ≤ sizeLine; decide, fun p hp => k _ _ (same_new hp) (dp_new hp (.cons (.str _) .nil))⟩)⟩
      · have hv' : ∀ u, x ≠ .sc (.en u) := fun u e => hv ⟨u, e⟩
        refine ifF (by simp [valW_ne hv']) ⟨Nat.zero_le _, none' ?_⟩
        cases x with
        | sc s => cases s <;> first | rfl | exact absurd rfl (hv' _)
        | st l => rfl
    | prin =>
      obtain ⟨b, z1, rfl, hq, h1⟩ := dp1 hd
      obtain rfl := dpS h1
      walk_at "r"
      exact ⟨by show 1 ≤ sizeLine; decide, fun p hp => k _ _ (same_new hp) (dp_new hp (.cons (.str _) .nil))⟩
    | act =>
      obtain ⟨b, z1, rfl, hq, h1⟩ := dp1 hd
      obtain rfl := dpS h1
      walk_at "r"
      exact ⟨by show 1 ≤ sizeLine; decide, fun p hp => k _ _ (same_new hp) (dp_new hp (.cons (.str _) .nil))⟩
    | res =>
      obtain ⟨b, z1, rfl, hq, h1⟩ := dp1 hd
      obtain rfl := dpS h1
      walk_at "r"
      exact ⟨by show 1 ≤ sizeLine; decide, fun p hp => k _ _ (same_new hp) (dp_new hp (.cons (.str _) .nil))⟩
    | ctx n =>
      obtain ⟨b, z1, z2, rfl, hq, h1, h2⟩ := dp2 hd
      obtain rfl := dpS h1
      obtain rfl := dpS h2
      have hn12 := name_len hok
      have hc7 : (("context" : Str)).length = 7 := by decide +kernel
      walk_at "r"
      refine ⟨by decide +kernel, ?_⟩
      walk_at "r"
      refine ⟨by rw [len_app, len_dot, hc7]; exact szl (by omega), by show 1 ≤ sizeLine; decide, fun p hp => k _ _ (same_new hp) (dp_new hp (.cons (.str _) .nil))⟩
    | one wd i n =>
      obtain ⟨b, z1, z2, z3, rfl, hq, h1, h2, h3⟩ := dp3 hd
      obtain rfl := dpS h1
      obtain rfl := dpI h2
      obtain rfl := dpS h3
      obtain ⟨v, hv, hvd, hv1, hv2⟩ := kn i (hops i (by simp [ops]))
      cases wd with
      | get =>
        simp only [One.w] at hq
        walk_at "r"
        refine rixL (sqN ha) (atI_nat hv) ?_
        walk_at "r"
        exact ⟨v, known.getD i [], n, rfl, hvd, fun p hp => (hv2 p hp).2, name_len hok, hv1, k⟩
      | has =>
        simp only [One.w] at hq
        walk_at "r"
        exact ⟨Nat.zero_le _, none' rfl⟩
      | is_ =>
        simp only [One.w] at hq
        walk_at "r"
        exact ⟨Nat.zero_le _, none' rfl⟩
    | given n =>
      obtain ⟨b, z1, z2, rfl, hq, h1, h2⟩ := dp2 hd
      obtain rfl := dpS h1
      walk_at "r"
      exact ⟨Nat.zero_le _, none' rfl⟩
    | not_ i =>
      obtain ⟨b, z1, z2, rfl, hq, h1, h2⟩ := dp2 hd
      obtain rfl := dpS h1
      walk_at "r"
      exact ⟨Nat.zero_le _, none' rfl⟩
    | two wd i j =>
      obtain ⟨b, z1, z2, z3, rfl, hq, h1, h2, h3⟩ := dp3 hd
      obtain rfl := dpS h1
      cases wd <;> (simp only [Two.w] at hq; walk_at "r"; exact ⟨Nat.zero_le _, none' rfl⟩)
    | ite i j l =>
      obtain ⟨b, z1, z2, z3, z4, rfl, hq, h1, h2, h3, h4⟩ := dp4 hd
      obtain rfl := dpS h1
      obtain rfl := dpI h2
      obtain rfl := dpI h3
      obtain rfl := dpI h4
      obtain ⟨v, hv, hvd, hv1, hv2⟩ := kn j (hops j (by simp [ops]))
      obtain ⟨v', hv', hvd', hv1', hv2'⟩ := kn l (hops l (by simp [ops]))
      walk_at "r"
      refine rixL (sqN ha) (atI_nat hv) ?_
      walk_at "r"
      refine rixL (sqN ha) (atI_nat hv') ?_
      refine ⟨v, v', _, _, rfl, .inr hvd, .inr hvd', ⟨all_txt hv2, all_txt hv2'⟩, by rw [List.length_map, List.length_map]; omega, fun D H1 hS1 hD0 hD => ?_⟩
      rw [joinD_map eqv_str] at hD
      obtain ⟨D', ys, e, hDl, hys⟩ := dp_lst hD
      cases e
      obtain rfl := dpAll_strs hys
      exact ⟨D, _, rfl, .inl ⟨hDl, fun l hl => k _ _ (hS1.trans (same_new hl)) (dp_new hl (dpAll_ofStrs _))⟩⟩
theorem nodePathsGo_snoc (nd : Node) : ∀ (l : List Node) (kn : List (List Str)), nodePathsGo (l ++ [nd]) kn = nodePathsGo l kn ++ [pathsOf (nodePathsGo l kn) nd]
  | [], kn => rfl
  | a :: l, kn => by show nodePathsGo (l ++ [nd]) _ = _; rw [nodePathsGo_snoc nd l]; rfl
theorem nodePathsGo_app : ∀ (l m : List Node) (kn : List (List Str)), nodePathsGo (l ++ m) kn = nodePathsGo m (nodePathsGo l kn)
  | [], _, _ => rfl
  | a :: l, m, kn => by show nodePathsGo (l ++ m) _ = _; rw [nodePathsGo_app l m]; rfl
theorem nodePathsGo_len (l : List Node) : (nodePathsGo l []).length = l.length := nodePaths_len l
theorem part_good {e : List Node} (E : ExprOk e) (he : e.length ≤ 100) (i : Nat) : ∀ l ∈ nodePathsGo (e.take i) [], l.length ≤ 1000 ∧ ∀ p ∈ l, PathOk p := by
  intro l hl
  have h1 : nodePaths e = nodePathsGo (e.drop i) (nodePathsGo (e.take i) []) := by
    unfold nodePaths
    rw [← nodePathsGo_app, List.take_append_drop]
  obtain ⟨t, h2, _⟩ := nodePathsGo_spec (e.drop i) (nodePathsGo (e.take i) [])
  have hm : l ∈ nodePaths e := by rw [h1, h2]; exact List.mem_append_left _ hl
  obtain ⟨k, hk, hke⟩ := List.getElem_of_mem hm
  have hp : pth e k = l := by
    unfold pth
    rw [List.getD_eq_getElem?_getD, List.getElem?_eq_getElem hk, hke]
    rfl
  rw [← hp]
  exact ⟨Nat.le_trans (pth_le E k) (by omega), fun p hp => pth_pathOk E he hp⟩
theorem noLs_strss (l : List (List Str)) : noLs (l.map encStrs) = true := noLs_map noL_strs l
theorem ok_node_paths (T : Top w K mg) (h_paths_of : O_paths_of P w K mg base) : O_node_paths P w K mg base := by
  refine mk_ok (f_node_paths T) sc_node_paths rfl rfl (fun _ _ _ _ _ _ us hl => match us, hl with | [_], _ => rfl) (fun vs H Q E h => ?_) (fun f cdv A outer s H vs Q E hr h => ?_)
  · obtain ⟨v, e, rfl, _⟩ := h
    rfl
  · obtain ⟨v, e, rfl, hd, E', he, k⟩ := h
    have sc := sc_node_paths
    refine ⟨_, (pss_cons (ps_set (i := 1) sc.nd rfl (Or.inl rfl) (pe_lst pa_nil))
      (pss_cons (ps_for PassesOwn.never rfl (pi_tup (pv 0)) (pg_name (i := 2) sc.nd rfl (Or.inl rfl))
      (pss_one (ps_expr (pe_bm PySem.F.plainAttrs_list PySem.F.slot_list_append PySem.F.type_list_append mt_append (pv 1) (pa_cons (pe_u h_paths_of hr rfl (g_paths_of T) (pa_cons (pv 2) (pa_cons (pv 1) pa_nil))) pa_nil)))))
      (pss_one (ps_ret (pv 1))))), ?_⟩
    obtain ⟨a, xs, rfl, hq, hx⟩ := dp_tup hd
    have hxl := enc_len hx
    refine ⟨Nat.zero_le _, fun L hL => ⟨_, rfl, a, rfl, ⟨_, sqT_same (same_new hL) hq⟩, for_it walk_tup (fun i σ H1 => (∃ o, σ = [some (.ref a), some (.ref L), o]) ∧ Same H H1 ∧ ∃ ys, H1 L = some (.lst ys) ∧ DpAll K H1 ys ((nodePathsGo (e.take i) []).map encStrs))
      ⟨⟨_, rfl⟩, same_new hL, [], upd_same, .nil⟩ (fun _ _ _ _ h => sqT_same h.2.1 hq) ?_ ?_⟩⟩
    · rintro i z σ H1 H2 hi ⟨⟨o, rfl⟩, hS, ys, hL1, hys⟩ ⟨rfl, hz⟩
      obtain ⟨nd, hnd, hzd⟩ := enc_at hx hz
      have hie : i < e.length := by rw [← hxl]; exact hi
      have hlen : (nodePathsGo (e.take i) []).length = i := by
        rw [nodePathsGo_len, List.length_take]
        omega
      refine ⟨_, rfl, .inl ⟨rfl, _, sqN hL1⟩, _, rfl, _, rfl, z, L, ys, nd, _, rfl, dp_same hS hzd, hL1, hys, fun o ho => by rw [hlen]; exact (FF.op_lt E'.wf hnd ho).1, E'.nodes nd (mem_at hnd), part_good E' he i, fun u H3 hS3 hu => ?_⟩
      have hL3 := hS3 _ _ hL1
      have htps := tps_put (o := HO.lst (ys ++ [u])) hL3
      refine ⟨L, ys, u, rfl, rfl, hL3, by rw [enc_len hys, hlen]; exact szlt (by omega), ⟨_, rfl⟩, same_mut (hS.trans hS3) hL, _, upd_same, ?_⟩
      rw [List.take_add_one, hnd]
      show DpAll K _ _ ((nodePathsGo (e.take i ++ [nd]) []).map encStrs)
      rw [nodePathsGo_snoc, List.map_append]
      exact dpAll_app (dpAll_tps htps (noLs_strss _) (dpAll_same hS3 hys)) (.cons (dp_tps htps (noL_strs _) hu) .nil)
    · rintro σ H1 ⟨⟨o, rfl⟩, hS, ys, hL1, hys⟩
      rw [List.take_of_length_le (by omega)] at hys
      exact ⟨_, rfl, k L H1 ys hS hL hL1 hys⟩
end
end FF
set_option Elab.async false
set_option linter.all false
set_option maxRecDepth 100000
set_option maxHeartbeats 4000000
namespace FF
open PySem PySem.Spec PyProof.Rows L2
local macro_rules | `(tactic| walk_at "r") => `(tactic| repeat (first
   | refine ⟨_, rfl, ?_⟩
   | refine ⟨_, _, rfl, rfl, ?_⟩
   | refine ⟨rfl, ?_⟩
   | refine rixT (by assumption) rfl ?_
   | refine rixL (by assumption) rfl ?_
   | refine ifT (by decide +kernel) ?_
   | refine ifF (by decide +kernel) ?_))
section
variable {P : Program} {w : World} {K : PySem.W.Frag} {mg : Str → Option Value} {base : Heap}

theorem exprMan_snoc (kn : List (List Str)) (m : Man) (l : List Node) (nd : Node) : (l ++ [nd]).foldl (exprManStep kn) m = exprManStep kn (l.foldl (exprManStep kn) m) nd := by rw [List.foldl_append]; rfl
theorem ok_expression_manifest (T : Top w K mg) (h_extended : O_extended P w K mg base) (h_join_reads : O_join_reads P w K mg base) (h_node_paths : O_node_paths P w K mg base) : O_expression_manifest P w K mg base := by
  refine mk_ok (f_expression_manifest T) sc_expression_manifest rfl rfl (fun _ _ _ _ _ _ us hl => match us, hl with | [_], _ => rfl) (fun vs H Q E h => ?_) (fun f cdv A outer s H vs Q E hr h => ?_)
  · obtain ⟨v, e, rfl, _⟩ := h
    rfl
  · obtain ⟨v, e, rfl, hd, E', he, k⟩ := h
    have sc := sc_expression_manifest
    refine ⟨_, (pss_cons (ps_set (i := 1) sc.nd rfl (Or.inl rfl) (pe_u h_node_paths hr rfl (g_node_paths T) (pa_cons (pv 0) pa_nil)))
      (pss_cons (ps_set (i := 2) sc.nd rfl (Or.inl rfl) (pe_lst pa_nil))
      (pss_cons (ps_set (i := 3) sc.nd rfl (Or.inl rfl) (pe_lst pa_nil))
      (pss_cons (ps_for PassesOwn.never rfl (pi_tup (pv 0)) (pg_name (i := 4) sc.nd rfl (Or.inl rfl))
      (pss_one (ps_if (PW.pt (pw_or (pt_cmpR op_eq (pe_ix ix_seq (pv 4) pe_int (fun _ _ => rfl)) pe_str (nomark _)) (pw_or1 (pt_cmpR op_eq (pe_ix ix_seq (pv 4) pe_int (fun _ _ => rfl)) pe_str (nomark _)))))
        (pss_one (ps_set (i := 2) sc.nd rfl (Or.inl rfl) (pe_u h_join_reads hr rfl (g_join_reads T) (pa_cons (pv 2) (pa_cons (pe_u h_extended hr rfl (g_extended T) (pa_cons (pe_ix ix_seq (pv 1) (pe_ix ix_seq (pv 4) pe_int (fun _ _ => rfl)) (fun _ _ => rfl)) (pa_cons (pe_ix ix_seq (pv 4) pe_int (fun _ _ => rfl)) pa_nil))) pa_nil)))))
        (pss_one (ps_if (pt_cmpR op_eq (pe_ix ix_seq (pv 4) pe_int (fun _ _ => rfl)) pe_str (nomark _))
          (pss_one (ps_set (i := 3) sc.nd rfl (Or.inl rfl) (pe_u h_join_reads hr rfl (g_join_reads T) (pa_cons (pv 3) (pa_cons (pe_ix ix_seq (pv 1) (pe_ix ix_seq (pv 4) pe_int (fun _ _ => rfl)) (fun _ _ => rfl)) pa_nil)))))
          pss_nil)))))
      (pss_one (ps_ret (pe_tup (pa_cons (pe_callTy call_tuple_of (by rfl) (n_tuple T) (by decide +kernel) (pa_cons (pv 2) pa_nil)) (pa_cons (pe_callTy call_tuple_of (by rfl) (n_tuple T) (by decide +kernel) (pa_cons (pv 3) pa_nil)) pa_nil))))))))), ?_⟩
    obtain ⟨a, xs, rfl, hq, hx⟩ := dp_tup hd
    have hxl := enc_len hx
    refine ⟨_, rfl, _, e, rfl, hd, E', he, fun D H1 ks hS1 hD0 hD hks => ?_⟩
    refine ⟨Nat.zero_le _, fun L1 hL1 => ⟨Nat.zero_le _, fun L2 hL2 => ?_⟩⟩
    have hSb := hS1.trans ((same_new (o := HO.lst []) hL1).trans (same_new (o := HO.lst []) hL2))
    have hSk := (same_new (o := HO.lst []) hL1).trans (same_new (o := HO.lst []) hL2)
    have hL1' : (upd (upd H1 L1 (HO.lst [])) L2 (HO.lst [])) L1 = some (.lst []) := same_new hL2 _ _ upd_same
    let M : Nat → Man := fun i => (e.take i).foldl (exprManStep (nodePaths e)) ([], [])
    have hMB : ∀ i, ManB (M i) 10000 := fun i => by
      have h := fold_man E' he (e.take i) ([], []) 0 (fun nd hnd => List.mem_of_mem_take hnd) (man_nil 0)
      rw [List.length_take] at h
      exact ⟨Nat.le_trans h.a (by omega), Nat.le_trans h.b (by omega), h.pa, h.pb⟩
    refine ⟨_, rfl, a, rfl, ⟨_, sqT_same hSb hq⟩, for_it walk_tup (fun i σ H2 => (∃ d1 d2 o, σ = [some (.ref a), some (.ref D), some (.ref d1), some (.ref d2), o] ∧ Dp K H2 (.ref d1) (.list ((M i).1.map PyData.str)) ∧ Dp K H2 (.ref d2) (.list ((M i).2.map PyData.str))) ∧ Same H H2 ∧ H2 D = some (.lst ks) ∧ DpAll K H2 ks ((nodePaths e).map encStrs))
      ⟨⟨L1, L2, _, rfl, .lst (sqN hL1') .nil, .lst (sqN upd_same) .nil⟩, hSb, hSk _ _ hD, dpAll_same hSk hks⟩ (fun _ _ _ _ h => sqT_same h.2.1 hq) ?_ ?_⟩
    · rintro i z σ H2 H3 hi ⟨⟨d1, d2, o, rfl, hd1, hd2⟩, hS, hD2, hks2⟩ ⟨rfl, hz⟩
      obtain ⟨nd, hnd, hzd⟩ := enc_at hx hz
      have hzd := dp_same hS hzd
      have hmem := mem_at hnd
      have hMi : M (i + 1) = exprManStep (nodePaths e) (M i) nd := by
        show (e.take (i + 1)).foldl _ _ = _
        rw [List.take_add_one, hnd]
        exact exprMan_snoc _ _ _ _
      have mB := hMB i
      have kn : ∀ o, o ∈ ops nd → ∃ v, ks[o]? = some v ∧ Dp K H3 v (encStrs (pth e o)) ∧ (pth e o).length ≤ 100 ∧ ∀ p ∈ pth e o, PathOk p := fun o ho => by
        have hlt := (FF.op_lt E'.wf hnd ho).1
        have hie := lt_of_some hnd
        have hol : o < (nodePaths e).length := by rw [nodePaths_len]; omega
        have : (nodePaths e)[o]? = some (pth e o) := by
          unfold pth
          rw [List.getD_eq_getElem?_getD, List.getElem?_eq_getElem hol]
          rfl
        obtain ⟨v, h1, h2⟩ := enc_get hks2 this
        exact ⟨v, h1, h2, Nat.le_trans (pth_le E' o) he, fun p hp => pth_pathOk E' he hp⟩
      have skip : exprManStep (nodePaths e) (M i) nd = M i → (∃ d1' d2' o', [some (V.ref a), some (.ref D), some (.ref d1), some (.ref d2), some z] = [some (.ref a), some (.ref D), some (.ref d1'), some (.ref d2'), o'] ∧ Dp K H3 (.ref d1') (.list ((M (i + 1)).1.map PyData.str)) ∧ Dp K H3 (.ref d2') (.list ((M (i + 1)).2.map PyData.str))) ∧ Same H H3 ∧ H3 D = some (.lst ks) ∧ DpAll K H3 ks ((nodePaths e).map encStrs) := fun e1 => by
        rw [hMi, e1]
        exact ⟨⟨d1, d2, _, rfl, hd1, hd2⟩, hS, hD2, hks2⟩
      -- get, has: the attributes grow
      have grow : ∀ (o : Nat) (n : Str), o ∈ ops nd → isName n = true → exprManStep (nodePaths e) (M i) nd = (joinL (M i).1 (extd (pth e o) n), (M i).2) → ∀ v, ks[o]? = some v →
          ∃ ps, Dp K H3 v (encStrs ps) ∧ (∀ p ∈ ps, p.length ≤ 2000) ∧ n.length ≤ 12 ∧ ps.length ≤ 1000 ∧ ∀ u H4, Same H3 H4 → Dp K H4 u (encStrs (extd ps n)) → ∃ dd1 dd2, (Dp K H4 (.ref d1) (.list dd1) ∨ Dp K H4 (.ref d1) (.tuple dd1)) ∧ (Dp K H4 u (.list dd2) ∨ Dp K H4 u (.tuple dd2)) ∧ (dd1.all txt1 = true ∧ dd2.all txt1 = true) ∧ dd1.length + dd2.length ≤ 10000000 ∧
            ∀ D1 H5, Same H4 H5 → H4 D1 = none → Dp K H5 (.ref D1) (.list (joinD dd1 dd2)) → (∃ d1' d2' o', [some (V.ref a), some (.ref D), some (.ref D1), some (.ref d2), some z] = [some (.ref a), some (.ref D), some (.ref d1'), some (.ref d2'), o'] ∧ Dp K H5 (.ref d1') (.list ((M (i + 1)).1.map PyData.str)) ∧ Dp K H5 (.ref d2') (.list ((M (i + 1)).2.map PyData.str))) ∧ Same H H5 ∧ H5 D = some (.lst ks) ∧ DpAll K H5 ks ((nodePaths e).map encStrs) := fun o n ho hn e1 v hv => by
        obtain ⟨v', hv', hvd, hl, hp⟩ := kn o ho
        rw [hv] at hv'
        cases hv'
        refine ⟨pth e o, hvd, fun p hp' => (hp p hp').2, name_len hn, by omega, fun u H4 hS4 hu => ⟨(M i).1.map PyData.str, (extd (pth e o) n).map PyData.str, .inl (dp_same hS4 hd1), .inr hu, ⟨all_txt mB.pa, all_txt fun p hp' => ext_pathOk E' he hn hp'⟩, ?_, fun D1 H5 hS5 hD10 hD1 => ?_⟩⟩
        · have := mB.a
          rw [List.length_map, List.length_map]
          unfold extd
          rw [List.length_map]
          omega
        · rw [joinD_map eqv_str] at hD1
          have hS35 := hS4.trans hS5
          rw [hMi, e1]
          exact ⟨⟨D1, d2, _, rfl, hD1, dp_same hS35 hd2⟩, hS.trans hS35, hS35 _ _ hD2, dpAll_same hS35 hks2⟩
      cases nd with
      | one wd o n =>
        obtain ⟨b, z1, z2, z3, rfl, hqn, h1, h2, h3⟩ := dp3 hzd
        obtain rfl := dpS h1
        obtain rfl := dpI h2
        obtain rfl := dpS h3
        have hnm : isName n = true := E'.nodes _ hmem
        obtain ⟨v, hv, _⟩ := kn o (by simp [ops])
        cases wd with
        | get =>
          simp only [One.w] at hqn
          refine ⟨_, rfl, rixT hqn rfl ⟨rfl, _, rfl, ifT (by decide +kernel) (ifT rfl ?_)⟩⟩
          obtain ⟨ps, g1, g2, g3, g4, g5⟩ := grow o n (by simp [ops]) hnm rfl v hv
          refine ⟨_, rfl, _, rfl, _, rfl, rixT hqn rfl (rixL (sqN hD2) (atI_nat hv) ⟨_, rfl, rixT hqn rfl ⟨v, ps, n, rfl, g1, g2, g3, g4, fun u H4 hS4 hu => ?_⟩⟩)⟩
          obtain ⟨dd1, dd2, k1, k2, k3, k4, k5⟩ := g5 u H4 hS4 hu
          exact ⟨_, _, dd1, dd2, rfl, k1, k2, k3, k4, k5⟩
        | has =>
          simp only [One.w] at hqn
          refine ⟨_, rfl, rixT hqn rfl ⟨rfl, _, rfl, ifF (by decide +kernel) ⟨_, rfl, rixT hqn rfl ⟨rfl, _, rfl, ifT (by decide +kernel) ?_⟩⟩⟩⟩
          obtain ⟨ps, g1, g2, g3, g4, g5⟩ := grow o n (by simp [ops]) hnm rfl v hv
          refine ⟨_, rfl, _, rfl, _, rfl, rixT hqn rfl (rixL (sqN hD2) (atI_nat hv) ⟨_, rfl, rixT hqn rfl ⟨v, ps, n, rfl, g1, g2, g3, g4, fun u H4 hS4 hu => ?_⟩⟩)⟩
          obtain ⟨dd1, dd2, k1, k2, k3, k4, k5⟩ := g5 u H4 hS4 hu
          exact ⟨_, _, dd1, dd2, rfl, k1, k2, k3, k4, k5⟩
        | is_ =>
          simp only [One.w] at hqn
          refine ⟨_, rfl, rixT hqn rfl ⟨rfl, _, rfl, ifF (by decide +kernel) ⟨_, rfl, rixT hqn rfl ⟨rfl, _, rfl, ifF (by decide +kernel) ⟨_, rfl, rixT hqn rfl ⟨rfl, _, rfl, ifF (by decide +kernel) (skip rfl)⟩⟩⟩⟩⟩⟩
      | two wd o j =>
        obtain ⟨b, z1, z2, z3, rfl, hqn, h1, h2, h3⟩ := dp3 hzd
        obtain rfl := dpS h1
        obtain rfl := dpI h2
        obtain rfl := dpI h3
        cases wd with
        | isin =>
          simp only [Two.w] at hqn
          refine ⟨_, rfl, rixT hqn rfl ⟨rfl, _, rfl, ifF (by decide +kernel) ⟨_, rfl, rixT hqn rfl ⟨rfl, _, rfl, ifF (by decide +kernel) ⟨_, rfl, rixT hqn rfl ⟨rfl, _, rfl, ifT (by decide +kernel) ?_⟩⟩⟩⟩⟩⟩
          obtain ⟨v, hv, hvd, hl, hp⟩ := kn o (by simp [ops])
          refine ⟨_, rfl, _, rfl, _, rfl, rixT hqn rfl (rixL (sqN hD2) (atI_nat hv) ?_)⟩
          refine ⟨_, _, (M i).2.map PyData.str, (pth e o).map PyData.str, rfl, .inl hd2, .inr hvd, ⟨all_txt mB.pb, all_txt hp⟩, ?_, fun D1 H5 hS5 hD10 hD1 => ?_⟩
          · have := mB.b
            rw [List.length_map, List.length_map]
            omega
          · rw [joinD_map eqv_str] at hD1
            refine ⟨⟨d1, D1, _, rfl, ?_, ?_⟩, hS.trans hS5, hS5 _ _ hD2, dpAll_same hS5 hks2⟩
            · rw [hMi]; exact dp_same hS5 hd1
            · rw [hMi]; exact hD1
        | _ =>
          simp only [Two.w] at hqn
          refine ⟨_, rfl, rixT hqn rfl ⟨rfl, _, rfl, ifF (by decide +kernel) ⟨_, rfl, rixT hqn rfl ⟨rfl, _, rfl, ifF (by decide +kernel) ⟨_, rfl, rixT hqn rfl ⟨rfl, _, rfl, ifF (by decide +kernel) (skip rfl)⟩⟩⟩⟩⟩⟩
      | _ =>
        obtain ⟨b, ys, rfl, hqn⟩ := node_hd hzd
        simp only [nodeW] at hqn
        refine ⟨_, rfl, rixT hqn (atI_nat (j := 0) rfl) ⟨rfl, _, rfl, ifF (by decide +kernel) ⟨_, rfl, rixT hqn (atI_nat (j := 0) rfl) ⟨rfl, _, rfl, ifF (by decide +kernel) ⟨_, rfl, rixT hqn (atI_nat (j := 0) rfl) ⟨rfl, _, rfl, ifF (by decide +kernel) (skip rfl)⟩⟩⟩⟩⟩⟩
    · rintro σ H2 ⟨⟨d1, d2, o, rfl, hd1, hd2⟩, hS, hD2, hks2⟩
      have hM : M xs.length = exprMan e := by
        show (e.take xs.length).foldl _ _ = _
        rw [List.take_of_length_le (by omega)]
        rfl
      rw [hM] at hd1 hd2
      obtain ⟨d1', y1, e1, hl1, hy1⟩ := dp_lst hd1
      cases e1
      obtain rfl := dpAll_strs hy1
      obtain ⟨d2', y2, e2, hl2, hy2⟩ := dp_lst hd2
      cases e2
      obtain rfl := dpAll_strs hy2
      refine ⟨_, rfl, d1, _, rfl, .inl ⟨hl1, fun l hl => ⟨_, rfl, d2, _, rfl, .inl ⟨sqL_same (same_new hl) hl2, fun l2 hl2' => ⟨by show 2 ≤ sizeLine; decide, fun q hq => ?_⟩⟩⟩⟩⟩
      have s2 := same_new (o := HO.tup ((exprMan e).2.map V.str)) hl2'
      have e1 : Dp K (upd (upd H2 l (HO.tup ((exprMan e).1.map V.str))) l2 (HO.tup ((exprMan e).2.map V.str))) (.ref l) (encStrs (exprMan e).1) := dp_same s2 (dp_new hl (dpAll_ofStrs _))
      exact k _ _ (hS.trans ((same_new hl).trans (s2.trans (same_new hq)))) (dp_new hq (.cons e1 (.cons (dp_new hl2' (dpAll_ofStrs _)) .nil)))
theorem ok_root_uid (T : Top w K mg) (h_context_value : O_context_value P w K mg base) (h_is_uid : O_is_uid P w K mg base) : O_root_uid P w K mg base := by
  refine mk_ok (f_root_uid T) sc_root_uid rfl rfl (fun _ _ _ _ _ _ us hl => match us, hl with | [_, _], _ => rfl) (fun vs H Q E h => ?_) (fun f cdv A outer s H vs Q E hr h => ?_)
  · obtain ⟨r, q, rq, rfl, _⟩ := h
    rfl
  · obtain ⟨r, q, rq, rfl, hq, hp, hlen, k⟩ := h
    have sc := sc_root_uid
    obtain ⟨es', n', KD⟩ := parts_kd T
    refine ⟨_, (pss_cons (ps_if (pt_val (pe_u h_is_uid hr rfl (g_is_uid T) (pa_cons (pv 0) pa_nil)))
      (pss_one (ps_ret (pv 0)))
      pss_nil)
      (pss_cons (ps_if (pt_cmpR (op_in_kd KD) (pv 0) (pe_gref (g_PARTS T)) rfl)
      (pss_one (ps_ret (pe_ix ix_seq (pv 1) (pe_kdget KD (pe_gref (g_PARTS T)) (pv 0) (fun _ _ => rfl)) (fun _ _ => rfl))))
      pss_nil)
      (pss_cons (ps_set (i := 2) sc.nd rfl (Or.inl rfl) (pe_u h_context_value hr rfl (g_context_value T) (pa_cons (pv 1) (pa_cons (pe_ix ix_seq (pe_split (pv 0) pe_str) pe_int (fun _ _ => rfl)) pa_nil))))
      (pss_cons (ps_if (PW.pt (pw_or (pt_cmpR op_isN (pv 2) pe_non (nomark _)) (pw_or1 (pt_cmpR op_ne (pe_ix ix_seq (pv 2) pe_int (fun _ _ => rfl)) pe_str (nomark _)))))
      (pss_one (ps_ret pe_non))
      pss_nil)
      (pss_one (ps_ret (pe_ix ix_seq (pv 2) pe_int (fun _ _ => rfl)))))))), ?_⟩
    obtain ⟨b, p, c, d, e, rfl, hb, hpp, hc, hdd, he⟩ := dp4 hq
    obtain rfl := dpS hpp
    obtain rfl := dpS hc
    obtain rfl := dpS hdd
    have key : ∀ p0 r0 ns, IsPath p0 r0 ns → ns = [] → p0 = r → r0 = r → (isUid r = true) ∨ (r = "principal") ∨ (r = "action") ∨ (r = "resource") ∨ ∃ n, isName n = true ∧ r = cx n := by
      intro p0 r0 ns h hn e1 e2
      cases h with
      | uid hu => rw [e1] at hu; exact .inl hu
      | prin => exact .inr (.inl e1.symm)
      | act => exact .inr (.inr (.inl e1.symm))
      | res => exact .inr (.inr (.inr (.inl e1.symm)))
      | ctx hn' => exact .inr (.inr (.inr (.inr ⟨_, hn', e1.symm⟩)))
      | ext _ _ => simp at hn
    rcases key r r [] hp rfl rfl rfl with hu | h | h | h | ⟨n, hn, h⟩
    · refine ⟨_, rfl, r, rfl, by omega, fun H1 hS1 => ⟨_, rfl, ifT hu ⟨_, rfl, ?_⟩⟩⟩
      have := k H1 hS1
      rw [root_uid hu] at this
      exact this
    · obtain ⟨u0, h5, h6⟩ := parts_some T (z := r) (i := 0) (by simp [h])
      refine ⟨_, rfl, r, rfl, by omega, fun H1 hS1 => ⟨_, rfl, ifF (by rw [h]; decide +kernel) ⟨_, rfl, r, _, rfl, rfl, h5, _, rfl, ifT rfl ⟨_, rfl, _, rfl, r, u0, _, rfl, rfl, h5, h6, rixT (sqT_same hS1 hb) rfl ?_⟩⟩⟩⟩
      have := k H1 hS1
      rw [h, root_prin] at this
      exact this
    · obtain ⟨u0, h5, h6⟩ := parts_some T (z := r) (i := 1) (by simp [h])
      refine ⟨_, rfl, r, rfl, by omega, fun H1 hS1 => ⟨_, rfl, ifF (by rw [h]; decide +kernel) ⟨_, rfl, r, _, rfl, rfl, h5, _, rfl, ifT rfl ⟨_, rfl, _, rfl, r, u0, _, rfl, rfl, h5, h6, rixT (sqT_same hS1 hb) rfl ?_⟩⟩⟩⟩
      have := k H1 hS1
      rw [h, root_act] at this
      exact this
    · obtain ⟨u0, h5, h6⟩ := parts_some T (z := r) (i := 2) (by simp [h])
      refine ⟨_, rfl, r, rfl, by omega, fun H1 hS1 => ⟨_, rfl, ifF (by rw [h]; decide +kernel) ⟨_, rfl, r, _, rfl, rfl, h5, _, rfl, ifT rfl ⟨_, rfl, _, rfl, r, u0, _, rfl, rfl, h5, h6, rixT (sqT_same hS1 hb) rfl ?_⟩⟩⟩⟩
      have := k H1 hS1
      rw [h, root_res] at this
      exact this
    · have h5 := parts_none T (z := r) (by
        rw [h]
        intro hm
        simp only [List.mem_cons, List.not_mem_nil, or_false] at hm
        rcases hm with hm | hm | hm
        · exact cx_ne (by decide +kernel) hm
        · exact cx_ne (by decide +kernel) hm
        · exact cx_ne (by decide +kernel) hm)
      have hk := root_ctx (rq := rq) hn
      refine ⟨_, rfl, r, rfl, by omega, fun H1 hS1 => ⟨_, rfl, ifF (by rw [h]; exact cx_no_uid hn) ⟨_, rfl, r, _, rfl, rfl, h5, _, rfl, ifF rfl ?_⟩⟩⟩
      refine ⟨_, rfl, _, rfl, ⟨_, rfl⟩, _, _, rfl, rfl, rfl, Nat.le_trans (Nat.add_le_add_right hlen 2) (by decide), fun p hp0 => ?_⟩
      have hL : SqL K (upd H1 p (.lst ((Txt.split r ("." : Str)).map V.str))) p ((splitC 46 r).map V.str) := by rw [← split_dot]; exact SqL.of upd_same
      have hS := hS1.trans (same_new (o := .lst ((Txt.split r ("." : Str)).map V.str)) hp0)
      rw [h, split_cx hn] at hL
      rw [h] at hS k
      rw [h]
      refine rixL hL (atI_nat (j := 1) rfl) ⟨_, n, rq, rfl, dp_same hS hq, fun x hx v hv => ?_, fun hx => ?_⟩
      · obtain ⟨a', y, rfl, ha', hy⟩ := val_hd hv
        rw [hx] at hk
        refine ⟨_, rfl, rfl, _, rfl, ifF (by simp) ⟨_, rfl, rixT ha' rfl ⟨rfl, _, rfl, ?_⟩⟩⟩
        by_cases hxe : ∃ u, x = .sc (.en u)
        · obtain ⟨u, rfl⟩ := hxe
          obtain rfl : y = V.str u := dpS hy
          refine ifF (by simp [valW, scW]) ⟨_, rfl, rixT ha' rfl ?_⟩
          have := k _ hS
          rw [hk] at this
          exact this
        · have hv' : ∀ u, x ≠ .sc (.en u) := fun u e => hxe ⟨u, e⟩
          refine ifT (by simp [valW_ne hv']) ?_
          have e9 : rootUid (cx n) rq = none := by
            rw [hk]
            cases x with
            | sc s => cases s <;> first | rfl | exact absurd rfl (hv' _)
            | st l => rfl
          have := k _ hS
          rw [e9] at this
          exact this
      · rw [hx] at hk
        refine ⟨_, rfl, rfl, _, rfl, ifT (by simp) ?_⟩
        have := k _ hS
        rw [hk] at this
        exact this
end
end FF
set_option Elab.async false
set_option linter.all false
set_option maxRecDepth 100000
set_option maxHeartbeats 4000000
namespace FF
open PySem PySem.Spec PyProof.Rows L2
local macro_rules | `(tactic| walk_at "r") => `(tactic| repeat (first
   | refine ⟨_, rfl, ?_⟩
   | refine ⟨_, _, rfl, rfl, ?_⟩
   | refine ⟨rfl, ?_⟩
   | refine rixT (by assumption) rfl ?_
   | refine rixL (by assumption) rfl ?_
   | refine ifT (by decide +kernel) ?_
   | refine ifF (by decide +kernel) ?_))
section
variable {P : Program} {w : World} {K : PySem.W.Frag} {mg : Str → Option Value} {base : Heap}

theorem drop_at {α : Type} {l : List α} {i : Nat} {x : α} (h : l[i]? = some x) : l.drop i = x :: l.drop (i + 1) := by
  have hi : i < l.length := by
    rcases Nat.lt_or_ge i l.length with h' | h'
    · exact h'
    · rw [List.getElem?_eq_none h'] at h; cases h
  rw [List.getElem?_eq_getElem hi] at h
  rw [List.drop_eq_getElem_cons hi, Option.some.inj h]
theorem nowhere_dp {w : World} {mg : Str → Option Value} (T : Top w K mg) (H : Hp) : Dp K H (.ref (He.ga K "NOWHERE")) (encFol none) := .tup (t_NOWHERE T H) (.cons (.str _) .nil)
theorem told_hd {H : Hp} {u : V} {t : Told} (h : Dp K H u (encTold t)) : ∃ a xs w, u = V.ref a ∧ SqT K H a (.str w :: xs) ∧ (w = "value" ↔ ∃ v, t = .value v) ∧ (∀ v, t = .value v → ∃ y, xs = [y] ∧ Dp K H y (encVal v)) := by
  cases t with
  | value v =>
    obtain ⟨a, x, y, rfl, hq, h1, h2⟩ := dp2 h
    obtain rfl := dpS h1
    exact ⟨a, [y], "value", rfl, hq, ⟨fun _ => ⟨v, rfl⟩, fun _ => rfl⟩, fun v' e => by cases e; exact ⟨y, rfl, h2⟩⟩
  | gone =>
    obtain ⟨a, x, rfl, hq, h1⟩ := dp1 h
    obtain rfl := dpS h1
    exact ⟨a, [], "gone", rfl, hq, ⟨fun e => absurd e (by decide +kernel), fun ⟨_, e⟩ => by cases e⟩, fun v' e => by cases e⟩
  | none =>
    obtain ⟨a, x, rfl, hq, h1⟩ := dp1 h
    obtain rfl := dpS h1
    exact ⟨a, [], "none", rfl, hq, ⟨fun e => absurd e (by decide +kernel), fun ⟨_, e⟩ => by cases e⟩, fun v' e => by cases e⟩
  | above us =>
    obtain ⟨a, x, y, rfl, hq, h1, h2⟩ := dp2 h
    obtain rfl := dpS h1
    exact ⟨a, [y], "above", rfl, hq, ⟨fun e => absurd e (by decide +kernel), fun ⟨_, e⟩ => by cases e⟩, fun v' e => by cases e⟩
theorem ok_follow (T : Top w K mg) (h_Database_tell : O_Database_tell P w K mg base) (h_root_uid : O_root_uid P w K mg base) : O_follow P w K mg base := by
  refine mk_ok (f_follow T) sc_follow rfl rfl (fun _ _ _ _ _ _ us hl => match us, hl with | [_, _, _, _], _ => rfl) (fun vs H Q E h => ?_) (fun f cdv A outer s H vs Q E hr h => ?_)
  · obtain ⟨r, vn, q, a, ns, rq, es, rfl, _⟩ := h
    rfl
  · obtain ⟨r, vn, q, a, ns, rq, es, rfl, hn, hq, hdb, hp, hlen, k⟩ := h
    have sc := sc_follow
    refine ⟨_, (pss_cons (ps_set (i := 4) sc.nd rfl (Or.inl rfl) (pe_u h_root_uid hr rfl (g_root_uid T) (pa_cons (pv 0) (pa_cons (pv 2) pa_nil))))
      (pss_cons (ps_if (pt_cmpR op_isN (pv 4) pe_non (nomark _))
      (pss_one (ps_ret (pe_gref (g_NOWHERE T))))
      pss_nil)
      (pss_cons (ps_for PassesOwn.never rfl (pi_tup (pv 1)) (pg_name (i := 5) sc.nd rfl (Or.inl rfl))
      (pss_cons (ps_set (i := 6) sc.nd rfl (Or.inl rfl) (pe_tup (pa_cons pe_str (pa_cons (pv 4) (pa_cons (pv 5) pa_nil)))))
        (pss_cons (ps_set (i := 7) sc.nd rfl (Or.inl rfl) (pe_mU h_Database_tell hr (cl_Database T) (me_Database_tell T) (pv 3) (pa_cons (pv 6) pa_nil)))
        (pss_cons (ps_if (pt_cmpR op_isN (pv 7) pe_non (nomark _))
        (pss_one (ps_ret (pe_tup (pa_cons pe_str (pa_cons (pv 6) pa_nil)))))
        pss_nil)
        (pss_cons (ps_if (PW.pt (pw_or (pt_cmpR op_ne (pe_ix ix_seq (pv 7) pe_int (fun _ _ => rfl)) pe_str (nomark _)) (pw_or1 (pt_cmpR op_ne (pe_ix ix_seq (pe_ix ix_seq (pv 7) pe_int (fun _ _ => rfl)) pe_int (fun _ _ => rfl)) pe_str (nomark _)))))
        (pss_one (ps_ret (pe_gref (g_NOWHERE T))))
        pss_nil)
        (pss_one (ps_set (i := 4) sc.nd rfl (Or.inl rfl) (pe_ix ix_seq (pe_ix ix_seq (pv 7) pe_int (fun _ _ => rfl)) pe_int (fun _ _ => rfl)))))))))
      (pss_one (ps_ret (pe_tup (pa_cons pe_str (pa_cons (pv 4) pa_nil)))))))), ?_⟩
    obtain ⟨b, xs, rfl, hb, hx⟩ := dp_tup hn
    obtain rfl := dpAll_strs hx
    have nowh : ∀ H', Same H H' → follow r ns rq (tell es) = none → Q (.ref (He.ga K "NOWHERE")) H' := fun H' hS e => k _ H' hS (by rw [e]; exact nowhere_dp T H')
    refine ⟨_, rfl, _, rfl, r, q, rq, rfl, hq, hp, hlen, fun H1 hS1 => ?_⟩
    cases hu : rootUid r rq with
    | none =>
      refine ⟨_, rfl, rfl, _, rfl, ifT (by simp [uidV]) (nowh H1 hS1 ?_)⟩
      simp [follow, hu]
    | some u =>
      have hF : follow r ns rq (tell es) = followGo (tell es) ns u := by simp [follow, hu]
      refine ⟨_, rfl, rfl, _, rfl, ifF (by simp [uidV]) ?_⟩
      obtain ⟨⟨dx, t, kvs, g1, g2, g3, g4⟩, hok⟩ := hdb
      have hdb : DbAt K H a es := ⟨⟨dx, t, kvs, g1, g2, g3, g4⟩, hok⟩
      refine ⟨_, rfl, b, rfl, ⟨_, sqT_same hS1 hb⟩, for_it walk_tup (fun i σ H2 => (∃ cur o5 o6 o7, σ = [some (.str r), some (.ref b), some q, some (.ref a), some (.str cur), o5, o6, o7] ∧ followGo (tell es) (ns.drop i) cur = follow r ns rq (tell es)) ∧ Same H H2) ⟨⟨u, _, _, _, rfl, hF.symm⟩, hS1⟩ (fun _ _ _ _ h => sqT_same h.2 hb) ?_ ?_⟩
      · rintro i z σ H2 H3 hi ⟨⟨cur, o5, o6, o7, rfl, hF2⟩, hS⟩ ⟨rfl, hz⟩
        obtain ⟨n, hn', rfl⟩ := map_at hz
        rw [drop_at hn', followGo] at hF2
        refine ⟨_, rfl, _, rfl, by show 3 ≤ sizeLine; decide, fun p hp => ?_⟩
        have hS2 := same_new (o := HO.tup [V.str "attribute", .str cur, .str n]) hp
        have hS02 := hS.trans hS2
        refine ⟨_, rfl, a, dx, _, rfl, hS02 _ _ g1, rfl, _, rfl, a, es, _, .attr cur n, rfl, db_same hS02 hdb, dp_new hp (.cons (.str _) (.cons (.str _) (.cons (.str _) .nil))), fun v H4 hS4 hv => ?_⟩
        have hS04 := hS02.trans hS4
        obtain ⟨c, ys, wd, rfl, hc, hw, hval⟩ := told_hd hv
        refine ⟨_, rfl, rfl, _, rfl, ifF (by simp) ?_⟩
        refine ⟨_, rfl, rixT hc (atI_nat (j := 0) rfl) ⟨rfl, _, rfl, ?_⟩⟩
        by_cases hwv : wd = "value"
        · obtain ⟨x, hx⟩ := hw.mp hwv
          obtain ⟨y, rfl, hy⟩ := hval x hx
          obtain ⟨d, y2, rfl, hd, hy2⟩ := val_hd hy
          rw [hx] at hF2
          refine ifF (by simp [hwv]) ⟨_, rfl, rixT hc rfl (rixT hd rfl ⟨rfl, _, rfl, ?_⟩)⟩
          by_cases hxe : ∃ u', x = .sc (.en u')
          · obtain ⟨u', rfl⟩ := hxe
            obtain rfl : y2 = V.str u' := dpS hy2
            refine ifF (by simp [valW, scW]) ⟨_, rfl, rixT hc rfl (rixT hd rfl ⟨⟨u', _, _, _, rfl, hF2⟩, hS04⟩)⟩
          · have hv' : ∀ u, x ≠ .sc (.en u) := fun u e => hxe ⟨u, e⟩
            refine ifT (by simp [valW_ne hv']) (nowh H4 hS04 ?_)
            rw [← hF2]
            cases x with
            | sc s => cases s <;> first | rfl | exact absurd rfl (hv' _)
            | st l => rfl
        · refine ifT (by simp [hwv]) (nowh H4 hS04 ?_)
          rw [← hF2]
          have : ∀ v, tell es (.attr cur n) ≠ .value v := fun v e => hwv (hw.mpr ⟨v, e⟩)
          split
          · rename_i v e; exact absurd e (this _)
          · rfl
      · rintro σ H2 ⟨⟨cur, o5, o6, o7, rfl, hF2⟩, hS⟩
        rw [List.drop_eq_nil_of_le (by rw [List.length_map]; exact Nat.le_refl _)] at hF2
        refine ⟨_, rfl, by show 2 ≤ sizeLine; decide, fun p hp => k _ _ (hS.trans (same_new hp)) ?_⟩
        rw [← hF2]
        exact dp_new hp (.cons (.str _) (.cons (.str _) .nil))
theorem noLs_ends (l : List Read) : noLs (l.map encEnd) = true := noLs_map (fun r => by simp [encEnd, noL, noLs, noL_read]) l
theorem fol_cases {H : Hp} {v : V} {o : Option Str} (h : Dp K H v (encFol o)) : (o = none ∧ ∃ a, v = V.ref a ∧ SqT K H a [.str "nowhere"]) ∨ ∃ u a, o = some u ∧ v = V.ref a ∧ SqT K H a [.str "to", .str u] := by
  cases o with
  | none =>
    obtain ⟨a, x, rfl, hq, h1⟩ := dp1 h
    obtain rfl := dpS h1
    exact .inl ⟨rfl, a, rfl, hq⟩
  | some u =>
    obtain ⟨a, x, y, rfl, hq, h1, h2⟩ := dp2 h
    obtain rfl := dpS h1
    obtain rfl := dpS h2
    exact .inr ⟨u, a, rfl, rfl, hq⟩
theorem fm_take {α β : Type} (f : α → Option β) {l : List α} {i : Nat} {x : α} (h : l[i]? = some x) : (l.take (i + 1)).filterMap f = (l.take i).filterMap f ++ (f x).toList := by
  rw [List.take_add_one, h, List.filterMap_append]
  simp only [Option.toList, List.filterMap_cons, List.filterMap_nil]
  cases f x <;> rfl
theorem ok_ends (T : Top w K mg) (h_follow : O_follow P w K mg base) (h_split_path : O_split_path P w K mg base) : O_ends P w K mg base := by
  refine mk_ok (f_ends T) sc_ends rfl rfl (fun _ _ _ _ _ _ us hl => match us, hl with | [_, _, _], _ => rfl) (fun vs H Q E h => ?_) (fun f cdv A outer s H vs Q E hr h => ?_)
  · obtain ⟨vm, q, a, m, rq, es, rfl, _⟩ := h
    rfl
  · obtain ⟨vm, q, a, m, rq, es, rfl, hm, hq, hdb, hmo, hmb, k⟩ := h
    have sc := sc_ends
    refine ⟨_, (pss_cons (ps_set (i := 3) sc.nd rfl (Or.inl rfl) (pe_lst pa_nil))
      (pss_cons (ps_for PassesOwn.never rfl (pi_tup (pe_ix ix_seq (pv 0) pe_int (fun _ _ => rfl))) (pg_name (i := 4) sc.nd rfl (Or.inl rfl))
      (pss_cons (ps_asg (pe_u h_split_path hr rfl (g_split_path T) (pa_cons (pv 4) pa_nil)) (pg_tup rfl (pgs_cons (pg_name (i := 5) sc.nd rfl (Or.inl rfl)) (pgs_cons (pg_name (i := 6) sc.nd rfl (Or.inl rfl)) pgs_nil))))
        (pss_cons (ps_set (i := 7) sc.nd rfl (Or.inl rfl) (pe_u h_follow hr rfl (g_follow T) (pa_cons (pv 5) (pa_cons (pe_slice sl_any (pv 6) po_none (po_some (pe_un un_neg pe_int))) (pa_cons (pv 1) (pa_cons (pv 2) pa_nil))))))
        (pss_one (ps_if (pt_cmpR op_eq (pe_ix ix_seq (pv 7) pe_int (fun _ _ => rfl)) pe_str (nomark _))
        (pss_one (ps_expr (pe_bm PySem.F.plainAttrs_list PySem.F.slot_list_append PySem.F.type_list_append mt_append (pv 3) (pa_cons (pe_tup (pa_cons (pe_tup (pa_cons pe_str (pa_cons (pe_ix ix_seq (pv 7) pe_int (fun _ _ => rfl)) (pa_cons (pe_ix ix_seq (pv 6) (pe_un un_neg pe_int) (fun _ _ => rfl)) pa_nil)))) (pa_cons pe_bl pa_nil))) pa_nil))))
        (pss_one (ps_if (pt_cmpR op_eq (pe_ix ix_seq (pv 7) pe_int (fun _ _ => rfl)) pe_str (nomark _))
          (pss_one (ps_expr (pe_bm PySem.F.plainAttrs_list PySem.F.slot_list_append PySem.F.type_list_append mt_append (pv 3) (pa_cons (pe_tup (pa_cons (pe_ix ix_seq (pv 7) pe_int (fun _ _ => rfl)) (pa_cons pe_bl pa_nil))) pa_nil))))
          pss_nil)))))))
      (pss_cons (ps_for PassesOwn.never rfl (pi_tup (pe_ix ix_seq (pv 0) pe_int (fun _ _ => rfl))) (pg_name (i := 4) sc.nd rfl (Or.inl rfl))
      (pss_cons (ps_asg (pe_u h_split_path hr rfl (g_split_path T) (pa_cons (pv 4) pa_nil)) (pg_tup rfl (pgs_cons (pg_name (i := 5) sc.nd rfl (Or.inl rfl)) (pgs_cons (pg_name (i := 6) sc.nd rfl (Or.inl rfl)) pgs_nil))))
        (pss_cons (ps_set (i := 7) sc.nd rfl (Or.inl rfl) (pe_u h_follow hr rfl (g_follow T) (pa_cons (pv 5) (pa_cons (pv 6) (pa_cons (pv 1) (pa_cons (pv 2) pa_nil))))))
        (pss_one (ps_if (pt_cmpR op_eq (pe_ix ix_seq (pv 7) pe_int (fun _ _ => rfl)) pe_str (nomark _))
        (pss_one (ps_expr (pe_bm PySem.F.plainAttrs_list PySem.F.slot_list_append PySem.F.type_list_append mt_append (pv 3) (pa_cons (pe_tup (pa_cons (pe_tup (pa_cons pe_str (pa_cons (pe_ix ix_seq (pv 7) pe_int (fun _ _ => rfl)) pa_nil))) (pa_cons pe_bl pa_nil))) pa_nil))))
        (pss_one (ps_if (pt_cmpR op_eq (pe_ix ix_seq (pv 7) pe_int (fun _ _ => rfl)) pe_str (nomark _))
          (pss_one (ps_expr (pe_bm PySem.F.plainAttrs_list PySem.F.slot_list_append PySem.F.type_list_append mt_append (pv 3) (pa_cons (pe_tup (pa_cons (pe_ix ix_seq (pv 7) pe_int (fun _ _ => rfl)) (pa_cons pe_bl pa_nil))) pa_nil))))
          pss_nil)))))))
      (pss_one (ps_ret (pv 3)))))), ?_⟩
    obtain ⟨b, m1, m2, rfl, hb, hm1, hm2⟩ := dp2 hm
    obtain ⟨b1, x1, rfl, hb1, hx1⟩ := dp_tup hm1
    obtain rfl := dpAll_strs hx1
    obtain ⟨b2, x2, rfl, hb2, hx2⟩ := dp_tup hm2
    obtain rfl := dpAll_strs hx2
    -- a read is noted
    have add : ∀ {L : Addr} {ys : List V} {rs : List Read} {H1 : Hp} {r : Read} {v : V}, Same H H1 → H L = none → H1 L = some (.lst ys) → DpAll K H1 ys (rs.map encEnd) → rs.length ≤ 400000 → Dp K H1 v (encEnd r) → ys.length < sizeLine ∧ Same H (upd H1 L (.lst (ys ++ [v]))) ∧ ∃ ys', upd H1 L (.lst (ys ++ [v])) L = some (.lst ys') ∧ DpAll K (upd H1 L (.lst (ys ++ [v]))) ys' ((rs ++ [r]).map encEnd) := by
      intro L ys rs H1 r v hS hL hL1 hys hl hv
      have htps := tps_put (o := HO.lst (ys ++ [v])) hL1
      refine ⟨by rw [enc_len hys]; exact Nat.lt_of_le_of_lt hl (by decide), same_mut hS hL, _, upd_same, ?_⟩
      rw [List.map_append]
      exact dpAll_app (dpAll_tps htps (noLs_ends _) hys) (.cons (dp_tps htps (by simp [encEnd, noL, noLs, noL_read]) hv) .nil)
    refine ⟨Nat.zero_le _, fun L hL => ?_⟩
    refine ⟨_, rfl, rixT (sqT_same (same_new hL) hb) rfl ⟨b1, rfl, ⟨_, sqT_same (same_new hL) hb1⟩, for_it walk_tup (fun i σ H1 => (∃ o4 o5 o6 o7, σ = [some (.ref b), some q, some (.ref a), some (.ref L), o4, o5, o6, o7]) ∧ Same H H1 ∧ ∃ ys, H1 L = some (.lst ys) ∧ DpAll K H1 ys (((m.1.take i).filterMap (endAttr rq (tell es))).map encEnd))
      ⟨⟨_, _, _, _, rfl⟩, same_new hL, [], upd_same, .nil⟩ (fun _ _ _ _ h => sqT_same h.2.1 hb1) ?_ ?_⟩⟩
    · rintro i z σ H1 H2 hi ⟨⟨o4, o5, o6, o7, rfl⟩, hS, ys, hL1, hys⟩ ⟨rfl, hz⟩
      obtain ⟨p, hp, rfl⟩ := map_at hz
      obtain ⟨r, ns, n, hpath⟩ := hmo.a p (mem_at hp)
      have hpo := hmb.pa p (mem_at hp)
      have hrl : r.length ≤ 2000 := by have := path_len hpath.root; simp at this; omega
      have hle : ((m.1.take i).filterMap (endAttr rq (tell es))).length ≤ 400000 := by
        refine Nat.le_trans (List.length_filterMap_le _ _) ?_
        rw [List.length_take]
        have := hmb.a
        omega
      have hEA : endAttr rq (tell es) p = (follow r ns rq (tell es)).map fun u => .attr u n := by
        unfold endAttr
        rw [path_sp hpath]
        simp
      refine ⟨_, rfl, p, r, ns ++ [n], rfl, hpath, hpo.2, fun u H3 hS3 hu => ?_⟩
      obtain ⟨c, c1, c2, rfl, hc, hc1, hc2⟩ := dp2 hu
      obtain rfl := dpS hc1
      obtain ⟨d, xs, rfl, hd, hxs⟩ := dp_tup hc2
      obtain rfl := dpAll_strs hxs
      refine gp2 hc ?_
      refine ⟨_, rfl, _, rfl, _, rfl, _, rfl, slT hd fun p2 H4 hS4 hp2 => ?_⟩
      rw [show cutV ((ns ++ [n]).map V.str) none (some (-1)) = (ns.map V.str) by
        have := cutV_takeN ((ns ++ [n]).map V.str) 1 (by decide)
        rw [show (some (-((1 : Nat) : Int))) = some (-1 : Int) from rfl] at this
        rw [this]
        simp] at hp2
      have hS04 := hS.trans (hS3.trans hS4)
      refine ⟨_, rfl, _, rfl, r, .ref p2, q, a, ns, rq, es, rfl, dp_of hp2 (dpAll_ofStrs _), dp_same hS04 hq, db_same hS04 hdb, hpath.root, hrl, fun v H5 hS5 hv => ?_⟩
      have hS15 := hS3.trans (hS4.trans hS5)
      have hS05 := hS.trans hS15
      have hL5 := hS15 _ _ hL1
      have hys5 := dpAll_same hS15 hys
      rcases fol_cases hv with ⟨hf, g, rfl, hg⟩ | ⟨u, g, hf, rfl, hg⟩
      · refine ⟨_, rfl, rixT hg rfl ⟨rfl, _, rfl, ifF (by decide +kernel) ⟨_, rfl, rixT hg rfl ⟨rfl, _, rfl, ifF (by decide +kernel) ⟨⟨_, _, _, _, rfl⟩, hS05, ys, hL5, ?_⟩⟩⟩⟩⟩
        rw [fm_take _ hp, hEA, hf]
        simpa using hys5
      · refine ⟨_, rfl, rixT hg rfl ⟨rfl, _, rfl, ifT (by decide +kernel) ?_⟩⟩
        refine ⟨_, rfl, .inl ⟨rfl, _, sqN hL5⟩, _, rfl, rixT hg rfl ⟨_, rfl, _, rfl, rixT (sqT_same (hS4.trans hS5) hd) (by rw [List.map_append]; exact atI_last _ _) ⟨by show 3 ≤ sizeLine; decide, fun q1 hq1 => ⟨by show 2 ≤ sizeLine; decide, fun q2 hq2 => ?_⟩⟩⟩⟩
        have s1 := same_new (o := HO.tup [V.str "attribute", .str u, .str n]) hq1
        have s2 := same_new (o := HO.tup [V.ref q1, .bl true]) hq2
        have s12 := s1.trans s2
        obtain ⟨a1, a2, ys', a3, a4⟩ := add (r := .attr u n) (v := .ref q2) (hS05.trans s12) hL (s12 _ _ hL5) (dpAll_same s12 hys5) hle (dp_new hq2 (.cons (dp_new hq1 (.cons (.str _) (.cons (.str _) (.cons (.str _) .nil)))) (.cons (.bl _) .nil)))
        refine ⟨L, ys, _, rfl, rfl, s12 _ _ hL5, a1, ⟨_, _, _, _, rfl⟩, a2, ys', a3, ?_⟩
        rw [fm_take _ hp, hEA, hf]
        exact a4
    · rintro σ H1 ⟨⟨o4, o5, o6, o7, rfl⟩, hS, ys, hL1, hys⟩
      rw [List.take_of_length_le (by rw [List.length_map]; exact Nat.le_refl _)] at hys
      have hle1 : (m.1.filterMap (endAttr rq (tell es))).length ≤ 60000 := Nat.le_trans (List.length_filterMap_le _ _) hmb.a
      refine ⟨_, rfl, rixT (sqT_same hS hb) rfl ⟨b2, rfl, ⟨_, sqT_same hS hb2⟩, for_it walk_tup (fun i σ H1 => (∃ o4 o5 o6 o7, σ = [some (.ref b), some q, some (.ref a), some (.ref L), o4, o5, o6, o7]) ∧ Same H H1 ∧ ∃ ys, H1 L = some (.lst ys) ∧ DpAll K H1 ys ((m.1.filterMap (endAttr rq (tell es)) ++ (m.2.take i).filterMap (endAnc rq (tell es))).map encEnd))
        ⟨⟨_, _, _, _, rfl⟩, hS, ys, hL1, by simpa using hys⟩ (fun _ _ _ _ h => sqT_same h.2.1 hb2) ?_ ?_⟩⟩
      · rintro i z σ H1 H2 hi ⟨⟨o4, o5, o6, o7, rfl⟩, hS, ys, hL1, hys⟩ ⟨rfl, hz⟩
        obtain ⟨p, hp, rfl⟩ := map_at hz
        obtain ⟨r, ns, hpath⟩ := hmo.b p (mem_at hp)
        have hpo := hmb.pb p (mem_at hp)
        have hrl : r.length ≤ 2000 := by have := path_len hpath.root; simp at this; omega
        have hle : (m.1.filterMap (endAttr rq (tell es)) ++ (m.2.take i).filterMap (endAnc rq (tell es))).length ≤ 400000 := by
          rw [List.length_append]
          have h1 := List.length_filterMap_le (endAnc rq (tell es)) (m.2.take i)
          rw [List.length_take] at h1
          have := hmb.b
          omega
        have hEA : endAnc rq (tell es) p = (follow r ns rq (tell es)).map fun u => .anc u := by
          unfold endAnc
          rw [path_sp hpath]
        refine ⟨_, rfl, p, r, ns, rfl, hpath, hpo.2, fun u H3 hS3 hu => ?_⟩
        obtain ⟨c, c1, c2, rfl, hc, hc1, hc2⟩ := dp2 hu
        obtain rfl := dpS hc1
        have hS03 := hS.trans hS3
        refine gp2 hc ?_
        refine ⟨_, rfl, _, rfl, _, rfl, _, rfl, r, c2, q, a, ns, rq, es, rfl, hc2, dp_same hS03 hq, db_same hS03 hdb, hpath.root, hrl, fun v H5 hS5 hv => ?_⟩
        have hS15 := hS3.trans hS5
        have hS05 := hS.trans hS15
        have hL5 := hS15 _ _ hL1
        have hys5 := dpAll_same hS15 hys
        rcases fol_cases hv with ⟨hf, g, rfl, hg⟩ | ⟨u, g, hf, rfl, hg⟩
        · refine ⟨_, rfl, rixT hg rfl ⟨rfl, _, rfl, ifF (by decide +kernel) ⟨_, rfl, rixT hg rfl ⟨rfl, _, rfl, ifF (by decide +kernel) ⟨⟨_, _, _, _, rfl⟩, hS05, ys, hL5, ?_⟩⟩⟩⟩⟩
          rw [fm_take _ hp, hEA, hf]
          simpa using hys5
        · refine ⟨_, rfl, rixT hg rfl ⟨rfl, _, rfl, ifT (by decide +kernel) ?_⟩⟩
          refine ⟨_, rfl, .inl ⟨rfl, _, sqN hL5⟩, _, rfl, rixT hg rfl ⟨by show 2 ≤ sizeLine; decide, fun q1 hq1 => ⟨by show 2 ≤ sizeLine; decide, fun q2 hq2 => ?_⟩⟩⟩
          have s1 := same_new (o := HO.tup [V.str "ancestors", .str u]) hq1
          have s2 := same_new (o := HO.tup [V.ref q1, .bl true]) hq2
          have s12 := s1.trans s2
          obtain ⟨a1, a2, ys', a3, a4⟩ := add (r := .anc u) (v := .ref q2) (hS05.trans s12) hL (s12 _ _ hL5) (dpAll_same s12 hys5) hle (dp_new hq2 (.cons (dp_new hq1 (.cons (.str _) (.cons (.str _) .nil))) (.cons (.bl _) .nil)))
          refine ⟨L, ys, _, rfl, rfl, s12 _ _ hL5, a1, ⟨_, _, _, _, rfl⟩, a2, ys', a3, ?_⟩
          rw [fm_take _ hp, hEA, hf, ← List.append_assoc]
          exact a4
      · rintro σ H1 ⟨⟨o4, o5, o6, o7, rfl⟩, hS, ys, hL1, hys⟩
        rw [List.take_of_length_le (by rw [List.length_map]; exact Nat.le_refl _)] at hys
        exact ⟨_, rfl, k _ H1 hS (.lst (sqN hL1) hys)⟩
theorem ok_named_reads (T : Top w K mg) (h_ends : O_ends P w K mg base) (h_join_reads : O_join_reads P w K mg base) : O_named_reads P w K mg base := by
  refine mk_ok (f_named_reads T) sc_named_reads rfl rfl (fun _ _ _ _ _ _ us hl => match us, hl with | [_, _, _], _ => rfl) (fun vs H Q E h => ?_) (fun f cdv A outer s H vs Q E hr h => ?_)
  · obtain ⟨vm, q, a, m, rq, es, rfl, _⟩ := h
    rfl
  · obtain ⟨vm, q, a, m, rq, es, rfl, hm, hq, hdb, hrg, hmo, hmb, k⟩ := h
    have sc := sc_named_reads
    refine ⟨_, (pss_one (ps_ret (pe_u h_join_reads hr rfl (g_join_reads T) (pa_cons (pe_lst pa_nil) (pa_cons (pe_lc (own := [("read", 3), ("_", 4)]) rfl sc.nd (pi_list (pe_u h_ends hr rfl (g_ends T) (pa_cons (pv 0) (pa_cons (pv 1) (pa_cons (pv 2) pa_nil))))) (blkOk_by (own := [("read", 3), ("_", 4)]) (N := N_named_reads) (sc := defScope s_named_reads) (by decide +kernel)) (fun _ _ _ _ _ => (pg_tupK K 2 rfl rfl (pgs_cons (pg_name (i := 3) sc.nd rfl (Or.inl rfl)) (pgs_cons (pg_name (i := 4) sc.nd rfl (Or.inl rfl)) pgs_nil)))) (fun _ _ _ _ _ => pts_nil) (fun _ _ _ _ _ => (pv 3))) pa_nil))))), ?_⟩
    have hok := ends_ok hdb.ok hrg hmo
    have hle : (endsM m rq (tell es)).length ≤ 400000 := by
      have := ends_len m rq (tell es)
      have h1 := hmb.a
      have h2 := hmb.b
      omega
    refine ⟨Nat.zero_le _, fun L0 hL0 => ?_⟩
    have hS0 := same_new (o := HO.lst []) hL0
    refine ⟨_, rfl, _, rfl, _, rfl, vm, q, a, m, rq, es, rfl, dp_same hS0 hm, dp_same hS0 hq, db_same hS0 hdb, hmo, hmb, fun u H1 hS1 hu => ?_⟩
    obtain ⟨b, xs, rfl, hb, hx⟩ := dp_lst hu
    have hxl := enc_len hx
    refine ⟨b, rfl, ⟨_, hb⟩, fun D hD => lc_it walk_list (fun i H2 => Same H1 H2 ∧ ∃ ys, H2 D = some (.lst ys) ∧ DpAll K H1 ys (((endsM m rq (tell es)).take i).map encRead)) ⟨same_new hD, [], upd_same, .nil⟩ (fun _ _ _ h => sqL_same h.1 hb) ?_ ?_⟩
    · rintro i z H2 H3 hi ⟨hS2, ys, hL, hys⟩ ⟨rfl, hz⟩
      obtain ⟨r, hri, hzd⟩ := enc_at hx hz
      obtain ⟨c, y1, y2, rfl, hc, g1, g2⟩ := dp2 hzd
      refine gp2 (sqT_same hS2 hc) ⟨rfl, tyes rfl ⟨_, rfl, _, hL, ?_, same_mut hS2 hD, _, upd_same, ?_⟩⟩
      · rw [enc_len hys, List.length_take]
        exact Nat.lt_of_le_of_lt (Nat.min_le_right _ _) (Nat.lt_of_le_of_lt hle (by decide))
      · rw [List.take_add_one, hri, List.map_append]
        exact dpAll_app hys (.cons g1 .nil)
    · rintro H2 ⟨hS2, ys, hL, hys⟩
      rw [List.take_of_length_le (by omega)] at hys
      refine ⟨.ref L0, .ref D, [], (endsM m rq (tell es)).map encRead, rfl, .inl (.lst (sqN (hS2 _ _ (hS1 _ _ upd_same))) .nil), .inl (.lst (sqN hL) (dpAll_same hS2 hys)), ⟨rfl, ?_⟩, by rw [List.length_map, List.length_nil]; omega, fun D1 H3 hS3 hD1 hd => ?_⟩
      · rw [List.all_map, List.all_eq_true]
        exact fun r hr => txt_read (hok r hr)
      · have := joinD_map eqv_read [] (endsM m rq (tell es))
        rw [List.map_nil] at this
        rw [this] at hd
        have hSS := hS0.trans (hS1.trans hS2)
        have hDH : H D1 = none := by
          cases q' : H D1 with
          | none => rfl
          | some o => rw [hSS _ _ q'] at hD1; cases hD1
        exact k D1 H3 (hSS.trans hS3) hDH hd
theorem ok_hierarchy (T : Top w K mg) (h_Database_ancestors : O_Database_ancestors P w K mg base) : O_hierarchy P w K mg base := by
  refine mk_ok (f_hierarchy T) sc_hierarchy rfl rfl (fun _ _ _ _ _ _ us hl => match us, hl with | [_, _], _ => rfl) (fun vs H Q E h => ?_) (fun f cdv A outer s H vs Q E hr h => ?_)
  · obtain ⟨a, v, es, rs, rfl, _⟩ := h
    rfl
  · obtain ⟨a, v, es, rs, rfl, hdb, hv, hle, k⟩ := h
    have sc := sc_hierarchy
    refine ⟨_, (pss_cons (ps_set (i := 2) sc.nd rfl (Or.inl rfl) (pe_lst pa_nil))
      (pss_cons (ps_for PassesOwn.never rfl (pi_list (pv 1)) (pg_name (i := 3) sc.nd rfl (Or.inl rfl))
      (pss_one (ps_if (pt_cmpR op_eq (pe_ix ix_seq (pv 3) pe_int (fun _ _ => rfl)) pe_str (nomark _))
        (pss_cons (ps_expr (pe_bm PySem.F.plainAttrs_list PySem.F.slot_list_append PySem.F.type_list_append mt_append (pv 2) (pa_cons (pe_ix ix_seq (pv 3) pe_int (fun _ _ => rfl)) pa_nil)))
          (pss_one (ps_expr (pe_bm PySem.F.plainAttrs_list PySem.F.slot_list_extend PySem.F.type_list_extend mt_extendT (pv 2) (pa_cons (pe_mU h_Database_ancestors hr (cl_Database T) (me_Database_ancestors T) (pv 0) (pa_cons (pe_ix ix_seq (pv 3) pe_int (fun _ _ => rfl)) pa_nil)) pa_nil)))))
        pss_nil)))
      (pss_one (ps_ret (pv 2))))), ?_⟩
    obtain ⟨b, xs, rfl, hb, hx⟩ := dp_lst hv
    have hxl := enc_len hx
    obtain ⟨⟨dx, t, kvs, g1, g2, g3, g4⟩, hok⟩ := hdb
    have hdb : DbAt K H a es := ⟨⟨dx, t, kvs, g1, g2, g3, g4⟩, hok⟩
    have hpre : ∀ i, (hierM es (rs.take i)).length ≤ (hierM es rs).length := fun i => by
      have : hierM es rs = hierM es (rs.take i) ++ hierM es (rs.drop i) := by
        unfold hierM
        rw [← List.flatMap_append, List.take_append_drop]
      rw [this, List.length_append]
      omega
    refine ⟨Nat.zero_le _, fun L hL => ⟨_, rfl, b, rfl, ⟨_, sqL_same (same_new hL) hb⟩, for_it walk_list (fun i σ H1 => (∃ o, σ = [some (.ref a), some (.ref b), some (.ref L), o]) ∧ Same H H1 ∧ H1 L = some (.lst ((hierM es (rs.take i)).map V.str)))
      ⟨⟨_, rfl⟩, same_new hL, upd_same⟩ (fun _ _ _ _ h => sqL_same h.2.1 hb) ?_ ?_⟩⟩
    · rintro i z σ H1 H2 hi ⟨⟨o, rfl⟩, hS, hL1⟩ ⟨rfl, hz⟩
      obtain ⟨r, hri, hzd⟩ := enc_at hx hz
      have hstep : hierM es (rs.take (i + 1)) = hierM es (rs.take i) ++ hierM es [r] := by
        unfold hierM
        rw [List.take_add_one, hri, List.flatMap_append]
        rfl
      have e1 : ∀ u n, hierM es [.attr u n] = [] := fun _ _ => by simp [hierM]
      have e2 : ∀ u, hierM es [.anc u] = u :: anc es u := fun _ => by simp [hierM]
      cases r with
      | attr u n =>
        obtain ⟨c, y1, y2, y3, rfl, hc, q1, q2, q3⟩ := dp3 (dp_same hS hzd)
        obtain rfl := dpS q1
        refine ⟨_, rfl, rixT hc rfl ⟨rfl, _, rfl, ifF (by decide +kernel) ⟨⟨_, rfl⟩, hS, ?_⟩⟩⟩
        rw [hstep, e1]
        simpa using hL1
      | anc u =>
        obtain ⟨c, y1, y2, rfl, hc, q1, q2⟩ := dp2 (dp_same hS hzd)
        obtain rfl := dpS q1
        obtain rfl := dpS q2
        have h1 := hpre (i + 1)
        rw [hstep, e2, List.length_append, List.length_cons] at h1
        refine ⟨_, rfl, rixT hc rfl ⟨rfl, _, rfl, ifT (by decide +kernel) ?_⟩⟩
        refine ⟨_, rfl, .inl ⟨rfl, _, sqN hL1⟩, _, rfl, rixT hc rfl ⟨L, _, _, rfl, rfl, hL1, by rw [List.length_map]; exact Nat.lt_of_le_of_lt (show _ ≤ 10000000 by omega) (by decide), ?_⟩⟩
        have htps := tps_put (o := HO.lst ((hierM es (rs.take i)).map V.str ++ [.str u])) hL1
        have hS2 := same_mut (o := HO.lst ((hierM es (rs.take i)).map V.str ++ [.str u])) hS hL
        refine ⟨_, rfl, .inl ⟨rfl, _, sqN upd_same⟩, _, rfl, a, dx, _, rfl, hS2 _ _ g1, rfl, _, rfl, rixT (sqT_tps htps hc) rfl ⟨a, es, u, rfl, db_same hS2 hdb, fun v' H3 hS3 hv' => ?_⟩⟩
        obtain ⟨d, ys, rfl, hd, hys⟩ := dp_tup hv'
        obtain rfl := dpAll_strs hys
        have hL3 := hS3 _ _ upd_same
        refine ⟨L, d, _, _, rfl, rfl, hL3, hd, ?_, ⟨_, rfl⟩, same_mut (hS2.trans hS3) hL, ?_⟩
        · rw [List.length_append, List.length_map, List.length_map, List.length_singleton]
          omega
        · rw [upd_same, hstep, e2]
          simp
    · rintro σ H1 ⟨⟨o, rfl⟩, hS, hL1⟩
      rw [List.take_of_length_le (by omega)] at hL1
      exact ⟨_, rfl, k L H1 hS hL (.lst (sqN hL1) (dpAll_ofStrs _))⟩
end
end FF
set_option Elab.async false
set_option linter.all false
set_option maxRecDepth 100000
set_option maxHeartbeats 4000000
namespace FF
open PySem PySem.Spec PyProof.Rows L2
local macro_rules | `(tactic| walk_at "r") => `(tactic| repeat (first
   | refine ⟨_, rfl, ?_⟩
   | refine ⟨_, _, rfl, rfl, ?_⟩
   | refine ⟨rfl, ?_⟩
   | refine rixT (by assumption) rfl ?_
   | refine rixL (by assumption) rfl ?_
   | refine ifT (by decide +kernel) ?_
   | refine ifF (by decide +kernel) ?_))
section
variable {P : Program} {w : World} {K : PySem.W.Frag} {mg : Str → Option Value} {base : Heap}

theorem nodup_uid {es : List Ent} (h : (es.map (·.uid)).Nodup) : True := trivial
theorem ok_slice_of (T : Top w K mg) (h_Database_init : O_Database_init P w K mg base) (h_Database_entities : O_Database_entities P w K mg base) (h_hierarchy : O_hierarchy P w K mg base) (h_named_reads : O_named_reads P w K mg base) : O_slice_of P w K mg base := by
  refine mk_ok (f_slice_of T) sc_slice_of rfl rfl (fun _ _ _ _ _ _ us hl => match us, hl with | [_, _, _], _ => rfl) (fun vs H Q E h => ?_) (fun f cdv A outer s H vs Q E hr h => ?_)
  · obtain ⟨a, q, vm, es, rq, m, rfl, _⟩ := h
    rfl
  · obtain ⟨a, q, vm, es, rq, m, rfl, hdb, hq, hm, hrg, hmo, hmb, k⟩ := h
    have sc := sc_slice_of
    refine ⟨_, (pss_cons (ps_set (i := 3) sc.nd rfl (Or.inl rfl) (pe_u h_named_reads hr rfl (g_named_reads T) (pa_cons (pv 2) (pa_cons (pv 1) (pa_cons (pv 0) pa_nil)))))
      (pss_cons (ps_set (i := 4) sc.nd rfl (Or.inl rfl) (pe_u h_hierarchy hr rfl (g_hierarchy T) (pa_cons (pv 0) (pa_cons (pv 3) pa_nil))))
      (pss_cons (ps_set (i := 5) sc.nd rfl (Or.inl rfl) (pe_lst pa_nil))
      (pss_cons (ps_for PassesOwn.never rfl (pi_list (pe_mU0 h_Database_entities hr (cl_Database T) (me_Database_entities T) (pv 0))) (pg_tup rfl (pgs_cons (pg_name (i := 6) sc.nd rfl (Or.inr rfl)) (pgs_cons (pg_name (i := 7) sc.nd rfl (Or.inl rfl)) (pgs_cons (pg_name (i := 8) sc.nd rfl (Or.inl rfl)) pgs_nil))))
      (pss_cons (ps_set (i := 9) sc.nd rfl (Or.inr rfl) (pe_lc (own := [("read", 11)]) rfl sc.nd (pi_list (pv 3)) (blkOk_by (own := [("read", 11)]) (N := N_slice_of) (sc := defScope s_slice_of) (by decide +kernel)) (fun _ _ _ _ _ => (pg_name (i := 11) sc.nd rfl (Or.inl rfl))) (fun _ _ _ _ _ => (pts_one (PW.pt (pw_and (pt_cmpR op_eq (pe_ix (r := rIx K) ix_seq (pv 11) pe_int (fun _ _ => rfl)) pe_str (nomark _)) (pw_and1 (pt_cmpR op_eq (pe_ix (r := rIx K) ix_seq (pv 11) pe_int (fun _ _ => rfl)) (pv 6) (nomark _))))))) (fun _ _ _ _ _ => (pe_ix (r := rIx K) ix_seq (pv 11) pe_int (fun _ _ => rfl)))))
        (pss_one (ps_if (PW.pt (pw_or (pt_truth (pv 9) (by intro _; rfl)) (pw_or1 (pt_cmpR op_in_seq (pv 6) (pv 4) rfl))))
        (pss_cons (ps_set (i := 10) sc.nd rfl (Or.inl rfl) (pe_callTy call_tuple_of (by rfl) (n_tuple T) (by decide +kernel) (pa_cons (pe_lc (own := [("pair", 12)]) rfl sc.nd (pi_tup (pv 7)) (blkOk_by (own := [("pair", 12)]) (N := N_slice_of) (sc := defScope s_slice_of) (by decide +kernel)) (fun _ _ _ _ _ => (pg_name (i := 12) sc.nd rfl (Or.inl rfl))) (fun _ _ _ _ _ => (pts_one (pt_cmpR (r := rIn K false) op_in_seq (pe_ix (r := rIx K) ix_seq (pv 12) pe_int (fun _ _ => rfl)) (pv 9) rfl))) (fun _ _ _ _ _ => (pv 12))) pa_nil)))
          (pss_one (ps_expr (pe_bm PySem.F.plainAttrs_list PySem.F.slot_list_append PySem.F.type_list_append mt_append (pv 5) (pa_cons (pe_tup (pa_cons (pv 6) (pa_cons (pv 10) (pa_cons (pe_ifExp (pt_cmpR op_in_seq (pv 6) (pv 4) rfl) (pv 8) (pe_tup pa_nil)) pa_nil)))) pa_nil)))))
        pss_nil))))
      (pss_one (ps_ret (pe_mkU h_Database_init hr (mk_Database T) rfl (g_Database T) (pa_cons (pv 5) pa_nil)))))))), ?_⟩
    obtain ⟨⟨dx, t, kvs, g1, g2, g3, g4⟩, hok⟩ := hdb
    have hdb : DbAt K H a es := ⟨⟨dx, t, kvs, g1, g2, g3, g4⟩, hok⟩
    have hnl := named_len m rq (tell es)
    have hma := hmb.a
    have hmB := hmb.b
    refine ⟨_, rfl, _, rfl, _, rfl, vm, q, a, m, rq, es, rfl, hm, hq, hdb, hrg, hmo, hmb, fun R H1 hS1 hR0 hR => ?_⟩
    have hhl := hier_len hok (namedM m rq (tell es))
    refine ⟨_, rfl, _, rfl, a, .ref R, es, _, rfl, db_same hS1 hdb, hR, by omega, fun Hi H2 hS2 hHi0 hHi => ?_⟩
    have hS02 := hS1.trans hS2
    obtain ⟨R', rx, eR, hRl, hrx⟩ := dp_lst (dp_same hS2 hR)
    cases eR
    obtain ⟨Hi', hx, eH, hHl, hhx⟩ := dp_lst hHi
    cases eH
    obtain rfl := dpAll_strs hhx
    refine ⟨Nat.zero_le _, fun L hL => ?_⟩
    have hSL := same_new (o := HO.lst []) hL
    have hS03 := hS02.trans hSL
    refine ⟨_, rfl, a, dx, _, rfl, hS03 _ _ g1, rfl, a, es, rfl, db_same hS03 hdb, fun D H3 hS3 hD0 hD => ?_⟩
    obtain ⟨D', xs, eD, hDl, hxs⟩ := dp_lst hD
    cases eD
    have hxl := enc_len hxs
    have hrxl := enc_len hrx
    have hL3 := hS3 _ _ (upd_same (H := H2) (a := L) (o := HO.lst []))
    have hDL : D ≠ L := fun e => by rw [e, upd_same] at hD0; cases hD0
    have hks : sliceM es rq m = es.filterMap (keepEnt (namedM m rq (tell es)) (hierM es (namedM m rq (tell es)))) := rfl
    generalize hrs : namedM m rq (tell es) = rs at *
    have hnlen : rs.length ≤ 120000 := by omega
    refine ⟨D, rfl, ⟨_, hDl⟩, for_it (walk_list (xs := xs)) (fun i σ H4 => (∃ o6 o7 o8 o9 o10, σ = [some (.ref a), some q, some vm, some (.ref R), some (.ref Hi), some (.ref L), o6, o7, o8, o9, o10, none, none]) ∧ Same H2 H4 ∧ But L H3 H4 ∧ ∃ ys, H4 L = some (.lst ys) ∧ DpAll K H4 ys (((es.take i).filterMap (keepEnt rs (hierM es rs))).map encEnt))
      ⟨⟨_, _, _, _, _, rfl⟩, hSL.trans hS3, But.refl _ _, [], hL3, .nil⟩ (fun _ _ H4 _ h => h.2.2.1.lst hDL hDl) ?_ ?_⟩
    · rintro i z σ H4 H5' hi ⟨⟨o6, o7, o8, o9, o10, rfl⟩, hS4, hB4, ys, hL4, hys⟩ ⟨rfl, hz⟩
      obtain ⟨e, he, hzd0⟩ := enc_at hxs hz
      have hzd := dp_tps (hB4.tps hL3) (noL_ent _) hzd0
      obtain ⟨c, y1, y2, y3, rfl, hc, q1, q2, q3⟩ := dp3 hzd
      obtain rfl := dpS q1
      have hie : i < es.length := by rw [← hxl]; exact hi
      have hes := hok.len
      refine gp3 hc ?_
      refine ⟨_, rfl, R, rfl, ⟨_, sqL_same hS4 hRl⟩, fun N hN => lc_it walk_list (fun j H5 => Same H5' H5 ∧ H5 N = some (.lst ((namesFor (rs.take j) e.uid).map V.str))) ⟨same_new hN, upd_same⟩ (fun _ _ _ h => sqL_same (hS4.trans h.1) hRl) ?_ ?_⟩
      · rintro j z2 H6 H7 hj ⟨hS6, hN6⟩ ⟨rfl, hz2⟩
        obtain ⟨r, hrj, hrd⟩ := enc_at hrx hz2
        have hrd := dp_same (hS4.trans hS6) hrd
        have hjl : j < rs.length := by rw [← hrxl]; exact hj
        have hst : namesFor (rs.take (j + 1)) e.uid = namesFor (rs.take j) e.uid ++ namesFor [r] e.uid := by
          unfold namesFor
          rw [List.take_add_one, hrj, List.filterMap_append]
          rfl
        cases r with
        | attr u n =>
          obtain ⟨c2, w1, w2, w3, rfl, hc2, k1, k2, k3⟩ := dp3 hrd
          obtain rfl := dpS k1
          obtain rfl := dpS k2
          obtain rfl := dpS k3
          refine ⟨rfl, _, rfl, rixT hc2 rfl ⟨rfl, _, rfl, ifT (by decide +kernel) ⟨_, rfl, rixT hc2 rfl ⟨_, rfl, rfl, _, rfl, ?_⟩⟩⟩⟩
          have hn1 : namesFor [Read.attr u n] e.uid = if u = e.uid then [n] else [] := by
            unfold namesFor
            by_cases h : u = e.uid <;> simp [h]
          refine ifB (fun hu => ?_) (fun hu => ?_)
          · have hu' : u = e.uid := by simpa using hu
            refine ⟨_, rfl, rixT hc2 rfl ⟨_, hN6, ?_, same_mut hS6 hN, ?_⟩⟩
            · rw [List.length_map]
              refine Nat.lt_of_le_of_lt (List.length_filterMap_le _ _) ?_
              rw [List.length_take]
              exact Nat.lt_of_le_of_lt (show _ ≤ 120000 by omega) (by decide)
            · rw [upd_same, hst, hn1, if_pos hu']
              simp
          · have hu' : ¬ u = e.uid := by simpa using hu
            refine ⟨hS6, ?_⟩
            rw [hst, hn1, if_neg hu', List.append_nil]
            exact hN6
        | anc u =>
          obtain ⟨c2, w1, w2, rfl, hc2, k1, k2⟩ := dp2 hrd
          obtain rfl := dpS k1
          refine ⟨rfl, _, rfl, rixT hc2 rfl ⟨rfl, _, rfl, ifF (by decide +kernel) (ifF rfl ⟨hS6, ?_⟩)⟩⟩
          have hn1 : namesFor [Read.anc u] e.uid = [] := by simp [namesFor]
          rw [hst, hn1, List.append_nil]
          exact hN6
      · rintro H5 ⟨hS5, hN5⟩
        rw [List.take_of_length_le (by omega)] at hN5
        generalize hnm : namesFor rs e.uid = names at hN5
        have hS25 := hS4.trans hS5
        have hL5 := hS5 _ _ hL4
        obtain ⟨b1, ps, rfl, hb1, hpr⟩ := dp_tup q2
        have hb15 := sqT_same hS5 hb1
        have hpr5 := dpAll_same hS5 hpr
        have hpe5 := dp_same hS5 q3
        let P0 : Str × Val → Bool := fun q => decide (q.1 ∈ names)
        -- the end of a turn that keeps the entity
        have fin : ∀ (Hn : Hp) (U : Addr) (vp vr : V), ¬ (names = [] ∧ e.uid ∉ hierM es rs) → Same H5 Hn → Hn U = none → Dp K Hn vp (encPairs (e.attrs.filter P0)) → Dp K Hn vr (encStrs (if e.uid ∈ hierM es rs then e.par else [])) →
            ys.length < sizeLine ∧ Same H2 (upd (upd Hn U (.tup [.str e.uid, vp, vr])) L (.lst (ys ++ [.ref U]))) ∧ But L H3 (upd (upd Hn U (.tup [.str e.uid, vp, vr])) L (.lst (ys ++ [.ref U]))) ∧ ∃ ys', upd (upd Hn U (.tup [.str e.uid, vp, vr])) L (.lst (ys ++ [.ref U])) L = some (.lst ys') ∧
              DpAll K (upd (upd Hn U (.tup [.str e.uid, vp, vr])) L (.lst (ys ++ [.ref U]))) ys' (((es.take (i + 1)).filterMap (keepEnt rs (hierM es rs))).map encEnt) := by
          intro Hn U vp vr hkeep hSn hU hvp hvr
          have sU := same_new (o := HO.tup [.str e.uid, vp, vr]) hU
          have hLn := sU _ _ (hSn _ _ hL5)
          have htps := tps_put (o := HO.lst (ys ++ [.ref U])) hLn
          refine ⟨?_, same_mut (hS25.trans (hSn.trans sU)) hL, (hB4.trans (But.of (hS5.trans (hSn.trans sU)))).put, _, upd_same, ?_⟩
          · rw [enc_len hys]
            refine Nat.lt_of_le_of_lt (List.length_filterMap_le _ _) ?_
            rw [List.length_take]
            exact szlt (by omega)
          · have hke : keepEnt rs (hierM es rs) e = some ⟨e.uid, e.attrs.filter P0, if e.uid ∈ hierM es rs then e.par else []⟩ := by
              unfold keepEnt
              rw [hnm, if_neg hkeep]
            rw [fm_take _ he, hke]
            simp only [Option.toList, List.map_append, List.map_cons, List.map_nil]
            exact dpAll_app (dpAll_tps htps (noLs_ents _) (dpAll_same (hS5.trans (hSn.trans sU)) hys)) (.cons (dp_tps htps (noL_ent _) (dp_new hU (.cons (.str _) (.cons hvp (.cons hvr .nil))))) .nil)
        by_cases hne : names = []
        · refine ⟨_, rfl, false, .inl ⟨_, sqN hN5, by rw [hne]; rfl⟩, ifF rfl ?_⟩
          refine ⟨_, rfl, _, rfl, Hi, _, rfl, .inl (sqL_same hS25 hHl), rfl, flat_strs _, _, rfl, ?_⟩
          show if inV (.str e.uid) ((hierM es rs).map V.str) = true then _ else _
          rw [inV_strs]
          by_cases hhi : e.uid ∈ hierM es rs
          · refine ifT (by simpa using hhi) ?_
            have hkeep : ¬ (names = [] ∧ e.uid ∉ hierM es rs) := fun h => h.2 hhi
            have hpar0 := hpe5
            refine ⟨_, rfl, b1, rfl, ⟨_, hb15⟩, fun D2 hD2 => lc_it walk_tup (fun j H6 => Same H5 H6 ∧ ∃ zs, H6 D2 = some (.lst zs) ∧ DpAll K H5 zs (((e.attrs.take j).filter P0).map encPair)) ⟨same_new hD2, [], upd_same, .nil⟩ (fun _ _ _ h => sqT_same h.1 hb15) ?_ ?_⟩
            · rintro j z2 H6 H7 hj ⟨hS6, zs, hz6, hzs⟩ ⟨rfl, hz2⟩
              obtain ⟨q0, hq0, hqd⟩ := enc_at hpr5 hz2
              obtain ⟨c2, w1, w2, rfl, hc2, k1, k2⟩ := dp2 hqd
              obtain rfl := dpS k1
              refine ⟨rfl, _, rfl, rixT (sqT_same hS6 hc2) rfl ⟨_, rfl, N, _, rfl, .inl (sqN (hS6 _ _ hN5)), rfl, flat_strs _, _, rfl, ?_⟩⟩
              show if inV (.str q0.1) (names.map V.str) = true then _ else _
              rw [inV_strs]
              have hst : (e.attrs.take (j + 1)).filter P0 = (e.attrs.take j).filter P0 ++ (if decide (q0.1 ∈ names) = true then [q0] else []) := by
                rw [List.take_add_one, hq0, List.filter_append]
                simp [P0, List.filter_cons]
              refine ifB (fun hin => ?_) (fun hin => ?_)
              · refine ⟨_, rfl, zs, hz6, ?_, same_mut hS6 hD2, _, upd_same, ?_⟩
                · rw [enc_len hzs]
                  refine Nat.lt_of_le_of_lt (List.length_filter_le _ _) ?_
                  rw [List.length_take]
                  have := (hok.good e (mem_at he)).attrs.len
                  exact szlt (by omega)
                · rw [hst, if_pos hin, List.map_append]
                  exact dpAll_app hzs (.cons hqd .nil)
              · refine ⟨hS6, zs, hz6, ?_⟩
                rw [hst, if_neg (by simpa using hin), List.append_nil]
                exact hzs
            · rintro H6 ⟨hS6, zs, hz6, hzs⟩
              rw [List.take_of_length_le (by rw [enc_len hpr5]; exact Nat.le_refl _)] at hzs
              refine ⟨D2, zs, rfl, .inl ⟨sqN hz6, fun l hl => ?_⟩⟩
              have s7 := same_new (o := HO.tup zs) hl
              have hS57 := hS6.trans s7
              have hpairs : Dp K (upd H6 l (.tup zs)) (.ref l) (encPairs (e.attrs.filter P0)) := dp_new hl (dpAll_same hS6 hzs)
              refine ⟨_, rfl, .inl ⟨rfl, _, sqN (hS57 _ _ hL5)⟩, _, rfl, _, rfl, _, rfl, _, rfl, Hi, _, rfl, .inl (sqL_same (hS25.trans hS57) hHl), rfl, flat_strs _, _, rfl, ?_⟩
              show if inV (.str e.uid) ((hierM es rs).map V.str) = true then _ else _
              rw [inV_strs]
              refine ifB (fun hh => ?_) (fun hh => ?_)
              · have hh' : e.uid ∈ hierM es rs := by simpa using hh
                refine ⟨_, rfl, by show 3 ≤ sizeLine; decide, fun U hU => ?_⟩
                obtain ⟨f1, f2, f3, f4⟩ := fin (upd H6 l (.tup zs)) U (.ref l) y3 hkeep hS57 hU hpairs (by rw [if_pos hh']; exact dp_same hS57 hpe5)
                exact ⟨L, ys, _, rfl, rfl, same_new hU _ _ (hS57 _ _ hL5), f1, ⟨_, _, _, _, _, rfl⟩, f2, f3, f4⟩
              · have hh' : e.uid ∉ hierM es rs := by simpa using hh
                refine ⟨Nat.zero_le _, fun p0 hp0 => ⟨by show 3 ≤ sizeLine; decide, fun U hU => ?_⟩⟩
                have s8 := same_new (o := HO.tup []) hp0
                obtain ⟨f1, f2, f3, f4⟩ := fin _ U (.ref l) (.ref p0) hkeep (hS57.trans s8) hU (dp_same s8 hpairs) (by rw [if_neg hh']; exact dp_new hp0 .nil)
                exact ⟨L, ys, _, rfl, rfl, same_new hU _ _ ((hS57.trans s8) _ _ hL5), f1, ⟨_, _, _, _, _, rfl⟩, f2, f3, f4⟩
          · refine ifF (by simpa using hhi) ⟨⟨_, _, _, _, _, rfl⟩, hS25, hB4.trans (But.of hS5), ys, hL5, ?_⟩
            have hke : keepEnt rs (hierM es rs) e = none := by
              unfold keepEnt
              rw [hnm, if_pos ⟨hne, hhi⟩]
            rw [fm_take _ he, hke]
            simpa using dpAll_same hS5 hys
        · refine ⟨_, rfl, true, .inl ⟨_, sqN hN5, by cases names with | nil => exact absurd rfl hne | cons _ _ => rfl⟩, ifT rfl (ifT rfl ?_)⟩
          have hkeep : ¬ (names = [] ∧ e.uid ∉ hierM es rs) := fun h => hne h.1
          have hpar0 := hpe5
          refine ⟨_, rfl, b1, rfl, ⟨_, hb15⟩, fun D2 hD2 => lc_it walk_tup (fun j H6 => Same H5 H6 ∧ ∃ zs, H6 D2 = some (.lst zs) ∧ DpAll K H5 zs (((e.attrs.take j).filter P0).map encPair)) ⟨same_new hD2, [], upd_same, .nil⟩ (fun _ _ _ h => sqT_same h.1 hb15) ?_ ?_⟩
          · rintro j z2 H6 H7 hj ⟨hS6, zs, hz6, hzs⟩ ⟨rfl, hz2⟩
            obtain ⟨q0, hq0, hqd⟩ := enc_at hpr5 hz2
            obtain ⟨c2, w1, w2, rfl, hc2, k1, k2⟩ := dp2 hqd
            obtain rfl := dpS k1
            refine ⟨rfl, _, rfl, rixT (sqT_same hS6 hc2) rfl ⟨_, rfl, N, _, rfl, .inl (sqN (hS6 _ _ hN5)), rfl, flat_strs _, _, rfl, ?_⟩⟩
            show if inV (.str q0.1) (names.map V.str) = true then _ else _
            rw [inV_strs]
            have hst : (e.attrs.take (j + 1)).filter P0 = (e.attrs.take j).filter P0 ++ (if decide (q0.1 ∈ names) = true then [q0] else []) := by
              rw [List.take_add_one, hq0, List.filter_append]
              simp [P0, List.filter_cons]
            refine ifB (fun hin => ?_) (fun hin => ?_)
            · refine ⟨_, rfl, zs, hz6, ?_, same_mut hS6 hD2, _, upd_same, ?_⟩
              · rw [enc_len hzs]
                refine Nat.lt_of_le_of_lt (List.length_filter_le _ _) ?_
                rw [List.length_take]
                have := (hok.good e (mem_at he)).attrs.len
                exact szlt (by omega)
              · rw [hst, if_pos hin, List.map_append]
                exact dpAll_app hzs (.cons hqd .nil)
            · refine ⟨hS6, zs, hz6, ?_⟩
              rw [hst, if_neg (by simpa using hin), List.append_nil]
              exact hzs
          · rintro H6 ⟨hS6, zs, hz6, hzs⟩
            rw [List.take_of_length_le (by rw [enc_len hpr5]; exact Nat.le_refl _)] at hzs
            refine ⟨D2, zs, rfl, .inl ⟨sqN hz6, fun l hl => ?_⟩⟩
            have s7 := same_new (o := HO.tup zs) hl
            have hS57 := hS6.trans s7
            have hpairs : Dp K (upd H6 l (.tup zs)) (.ref l) (encPairs (e.attrs.filter P0)) := dp_new hl (dpAll_same hS6 hzs)
            refine ⟨_, rfl, .inl ⟨rfl, _, sqN (hS57 _ _ hL5)⟩, _, rfl, _, rfl, _, rfl, _, rfl, Hi, _, rfl, .inl (sqL_same (hS25.trans hS57) hHl), rfl, flat_strs _, _, rfl, ?_⟩
            show if inV (.str e.uid) ((hierM es rs).map V.str) = true then _ else _
            rw [inV_strs]
            refine ifB (fun hh => ?_) (fun hh => ?_)
            · have hh' : e.uid ∈ hierM es rs := by simpa using hh
              refine ⟨_, rfl, by show 3 ≤ sizeLine; decide, fun U hU => ?_⟩
              obtain ⟨f1, f2, f3, f4⟩ := fin (upd H6 l (.tup zs)) U (.ref l) y3 hkeep hS57 hU hpairs (by rw [if_pos hh']; exact dp_same hS57 hpe5)
              exact ⟨L, ys, _, rfl, rfl, same_new hU _ _ (hS57 _ _ hL5), f1, ⟨_, _, _, _, _, rfl⟩, f2, f3, f4⟩
            · have hh' : e.uid ∉ hierM es rs := by simpa using hh
              refine ⟨Nat.zero_le _, fun p0 hp0 => ⟨by show 3 ≤ sizeLine; decide, fun U hU => ?_⟩⟩
              have s8 := same_new (o := HO.tup []) hp0
              obtain ⟨f1, f2, f3, f4⟩ := fin _ U (.ref l) (.ref p0) hkeep (hS57.trans s8) hU (dp_same s8 hpairs) (by rw [if_neg hh']; exact dp_new hp0 .nil)
              exact ⟨L, ys, _, rfl, rfl, same_new hU _ _ ((hS57.trans s8) _ _ hL5), f1, ⟨_, _, _, _, _, rfl⟩, f2, f3, f4⟩
    · rintro σ H4 ⟨⟨o6, o7, o8, o9, o10, rfl⟩, hS4, hB4, ys, hL4, hys⟩
      rw [List.take_of_length_le (by omega)] at hys
      refine ⟨_, rfl, fun x dx hx hdx hne => ?_⟩
      have hS0 : Same H4 (upd (upd H4 dx (.own x)) x (.ins (CD K) dx [])) := (same_new hdx).trans (same_new (by rw [upd_ne (Ne.symm hne)]; exact hx))
      refine ⟨x, dx, .ref L, es.filterMap (keepEnt rs (hierM es rs)), rfl, upd_same, dp_same hS0 (.lst (sqN hL4) hys), by rw [← hks]; exact slice_ok hok rq m, fun H' es'' hB hperm hdb' => ⟨rfl, k x H' es'' ?_ (by rw [hks]; exact hperm) hdb'⟩⟩
      intro c o hc
      have h1 := hS4 _ _ (hS02 _ _ hc)
      have n1 : c ≠ x := fun e => by rw [e, hx] at h1; cases h1
      exact hB c o n1 (hS0 c o h1)
end
end FF
set_option Elab.async false
set_option linter.all false
set_option maxRecDepth 100000
set_option maxHeartbeats 4000000
namespace FF
open PySem PySem.Spec PyProof.Rows L2
local macro_rules | `(tactic| walk_at "r") => `(tactic| repeat (first
   | refine ⟨_, rfl, ?_⟩
   | refine ⟨_, _, rfl, rfl, ?_⟩
   | refine ⟨rfl, ?_⟩
   | refine rixT (by assumption) rfl ?_
   | refine rixL (by assumption) rfl ?_
   | refine ifT (by decide +kernel) ?_
   | refine ifF (by decide +kernel) ?_))
section
variable {P : Program} {w : World} {K : PySem.W.Frag} {mg : Str → Option Value} {base : Heap}

theorem eqv_out (a b : Out) : PyData.eqv (encOut a) (encOut b) = decide (a = b) := by
  have vf : ("value" : Str) ≠ "fails" := by decide +kernel
  rw [Bool.eq_iff_iff, decide_eq_true_eq]
  cases a with
  | value v =>
    cases b with
    | value v' =>
      show PyData.eqvAll [.str "value", encVal v] [.str "value", encVal v'] = true ↔ _
      simp only [PyData.eqvAll, eqv_str, eqv_val, Bool.and_eq_true, decide_eq_true_eq]
      simp
    | fails z =>
      show PyData.eqvAll [.str "value", encVal v] [.str "fails", .str z] = true ↔ _
      simp only [PyData.eqvAll, eqv_str, Bool.and_eq_true, decide_eq_true_eq]
      exact ⟨fun h => absurd h.1 vf, fun h => by cases h⟩
  | fails z =>
    cases b with
    | value v' =>
      show PyData.eqvAll [.str "fails", .str z] [.str "value", encVal v'] = true ↔ _
      simp only [PyData.eqvAll, eqv_str, Bool.and_eq_true, decide_eq_true_eq]
      exact ⟨fun h => absurd h.1.symm vf, fun h => by cases h⟩
    | fails z' =>
      show PyData.eqvAll [.str "fails", .str z] [.str "fails", .str z'] = true ↔ _
      simp only [PyData.eqvAll, eqv_str, Bool.and_eq_true, decide_eq_true_eq]
      simp
theorem shp_out {o : Out} (h : OutOk o) : SeqAt.shaped (encOut o) = true := by
  have t1 : PyData.strOk "value" = true := by decide +kernel
  have t2 : PyData.strOk "fails" = true := by decide +kernel
  cases o with
  | value v =>
    have h1 := lay_val h
    have h2 := dep_val v
    refine shp (by simp [encOut, PyData.canLay0, PyData.canLayAll0, t1, h1]) ?_
    simp [encOut, PyData.depth, PyData.depthAll]
    omega
  | fails w =>
    have h1 : PyData.strOk w = true := h.1
    refine shp (by simp [encOut, PyData.canLay0, PyData.canLayAll0, t2, h1]) ?_
    simp [encOut, PyData.depth, PyData.depthAll]
theorem ok_in_scope (T : Top w K mg) (h_Database_tell : O_Database_tell P w K mg base) (h_kind_of : O_kind_of P w K mg base) (h_truth : O_truth P w K mg base) : O_in_scope P w K mg base := by
  refine mk_ok (f_in_scope T) sc_in_scope rfl rfl (fun _ _ _ _ _ _ us hl => match us, hl with | [_, _, _], _ => rfl) (fun vs H Q E h => ?_) (fun f cdv A outer s H vs Q E hr h => ?_)
  · obtain ⟨v, u, a, sc0, es, rfl, _⟩ := h
    rfl
  · obtain ⟨v, u, a, sc0, es, rfl, hv, hu, hg, hdb, k⟩ := h
    have sc := sc_in_scope
    refine ⟨_, (pss_cons (ps_if (pt_cmpR op_eq (pe_ix ix_seq (pv 0) pe_int (fun _ _ => rfl)) pe_str (nomark _))
      (pss_one (ps_ret (pe_tup (pa_cons (pe_u h_truth hr rfl (g_truth T) (pa_cons pe_bl pa_nil)) (pa_cons (pe_lst pa_nil) pa_nil)))))
      pss_nil)
      (pss_cons (ps_if (pt_cmpR op_eq (pe_ix ix_seq (pv 0) pe_int (fun _ _ => rfl)) pe_str (nomark _))
      (pss_one (ps_ret (pe_tup (pa_cons (pe_u h_truth hr rfl (g_truth T) (pa_cons (pe_cmpR op_eq (pe_u h_kind_of hr rfl (g_kind_of T) (pa_cons (pv 1) pa_nil)) (pe_ix ix_seq (pv 0) pe_int (fun _ _ => rfl)) (nomark _)) pa_nil)) (pa_cons (pe_lst pa_nil) pa_nil)))))
      pss_nil)
      (pss_cons (ps_if (PW.pt (pw_or (pt_cmpR op_eq (pe_ix ix_seq (pv 0) pe_int (fun _ _ => rfl)) pe_str (nomark _)) (pw_or1 (pt_cmpR op_eq (pe_ix ix_seq (pv 0) pe_int (fun _ _ => rfl)) (pv 1) (nomark _)))))
      (pss_one (ps_ret (pe_tup (pa_cons (pe_u h_truth hr rfl (g_truth T) (pa_cons (pe_cmpR op_eq (pe_ix ix_seq (pv 0) pe_int (fun _ _ => rfl)) (pv 1) (nomark _)) pa_nil)) (pa_cons (pe_lst pa_nil) pa_nil)))))
      pss_nil)
      (pss_cons (ps_set (i := 3) sc.nd rfl (Or.inl rfl) (pe_tup (pa_cons pe_str (pa_cons (pv 1) pa_nil))))
      (pss_cons (ps_set (i := 4) sc.nd rfl (Or.inl rfl) (pe_mU h_Database_tell hr (cl_Database T) (me_Database_tell T) (pv 2) (pa_cons (pv 3) pa_nil)))
      (pss_cons (ps_if (pt_cmpR op_isN (pv 4) pe_non (nomark _))
      (pss_one (ps_ret (pe_tup (pa_cons (pe_tup (pa_cons pe_str (pa_cons (pv 3) pa_nil))) (pa_cons (pe_lst pa_nil) pa_nil)))))
      pss_nil)
      (pss_one (ps_ret (pe_tup (pa_cons (pe_u h_truth hr rfl (g_truth T) (pa_cons (pe_cmpR op_in_seq (pe_ix ix_seq (pv 0) pe_int (fun _ _ => rfl)) (pe_ix ix_seq (pv 4) pe_int (fun _ _ => rfl)) rfl) pa_nil)) (pa_cons (pe_lst (pa_cons (pv 3) pa_nil)) pa_nil))))))))))), ?_⟩
    -- what ends without a read
    have fin : ∀ {b : Bool} {v : V} {H1 : Hp}, Same H H1 → Dp K H1 v (encOut (truth b)) → inScope sc0 u (tell es) = (b, []) → 0 ≤ sizeLine ∧ ∀ L, H1 L = none → 2 ≤ sizeLine ∧ ∀ p, (upd H1 L (.lst [])) p = none → Q (.ref p) (upd (upd H1 L (.lst [])) p (.tup [v, .ref L])) := fun {b v H1} hS hv e =>
      ⟨Nat.zero_le _, fun L hL => ⟨by decide, fun p hp => k _ _ (hS.trans ((same_new hL).trans (same_new hp))) (by
        rw [e]
        exact dp_new hp (.cons (dp_same (same_new hL) hv) (.cons (dp_newL (ds := []) hL .nil) .nil)))⟩⟩
    cases sc0 with
    | any =>
      obtain ⟨b, x, rfl, hb, h1⟩ := dp1 hv
      obtain rfl := dpS h1
      refine ⟨_, rfl, rixT hb rfl ⟨rfl, _, rfl, ifT (by decide +kernel) ⟨true, rfl, fun v H1 hS1 hv1 => fin hS1 hv1 rfl⟩⟩⟩
    | kind z =>
      obtain ⟨b, x, y, rfl, hb, h1, h2⟩ := dp2 hv
      obtain rfl := dpS h1
      obtain rfl := dpS h2
      refine ⟨_, rfl, rixT hb rfl ⟨rfl, _, rfl, ifF (by decide +kernel) ⟨_, rfl, rixT hb rfl ⟨rfl, _, rfl, ifT (by decide +kernel) ?_⟩⟩⟩⟩
      refine ⟨_, rfl, u, rfl, Nat.le_trans (uid_len hu) (by decide), fun H1 hS1 => ⟨_, rfl, rixT (sqT_same hS1 hb) rfl ⟨rfl, decide (kindOf u = z), by simp, fun v H2 hS2 hv2 => fin (hS1.trans hS2) hv2 rfl⟩⟩⟩
    | is_ z =>
      obtain ⟨b, x, y, rfl, hb, h1, h2⟩ := dp2 hv
      obtain rfl := dpS h1
      obtain rfl := dpS h2
      refine ⟨_, rfl, rixT hb rfl ⟨rfl, _, rfl, ifF (by decide +kernel) ⟨_, rfl, rixT hb rfl ⟨rfl, _, rfl, ifF (by decide +kernel) ⟨_, rfl, rixT hb rfl ⟨rfl, _, rfl, ifT (by decide +kernel) (ifT rfl ?_)⟩⟩⟩⟩⟩⟩
      exact ⟨_, rfl, rixT hb rfl ⟨_, rfl, rfl, decide (z = u), by simp, fun v H2 hS2 hv2 => fin hS2 hv2 rfl⟩⟩
    | in_ z =>
      obtain ⟨b, x, y, rfl, hb, h1, h2⟩ := dp2 hv
      obtain rfl := dpS h1
      obtain rfl := dpS h2
      refine ⟨_, rfl, rixT hb rfl ⟨rfl, _, rfl, ifF (by decide +kernel) ⟨_, rfl, rixT hb rfl ⟨rfl, _, rfl, ifF (by decide +kernel) ⟨_, rfl, rixT hb rfl ⟨rfl, _, rfl, ifF (by decide +kernel) ⟨_, rfl, rixT hb rfl ⟨_, rfl, rfl, _, rfl, ?_⟩⟩⟩⟩⟩⟩⟩⟩
      by_cases hz : z = u
      · refine ifT (by simp [hz]) ⟨_, rfl, rixT hb rfl ⟨_, rfl, rfl, true, by simp [hz], fun v H2 hS2 hv2 => fin hS2 hv2 (by simp [inScope, hz])⟩⟩
      · refine ifF (by simp [hz]) ⟨_, rfl, by show 2 ≤ sizeLine; decide, fun p hp => ?_⟩
        have s1 := same_new (o := HO.tup [V.str "ancestors", .str u]) hp
        have hread : Dp K (upd H p (.tup [V.str "ancestors", .str u])) (.ref p) (encRead (.anc u)) := dp_new hp (.cons (.str _) (.cons (.str _) .nil))
        obtain ⟨⟨dx, t, kvs, g1, g2, g3, g4⟩, hok⟩ := hdb
        have hdb : DbAt K H a es := ⟨⟨dx, t, kvs, g1, g2, g3, g4⟩, hok⟩
        refine ⟨_, rfl, a, dx, _, rfl, s1 _ _ g1, rfl, _, rfl, a, es, _, .anc u, rfl, db_same s1 hdb, hread, fun v H2 hS2 hv2 => ?_⟩
        obtain ⟨d, w1, w2, rfl, hd, k1, k2⟩ := dp2 hv2
        obtain ⟨d2, ys, rfl, hd2, hys⟩ := dp_tup k2
        obtain rfl := dpAll_strs hys
        have hS02 := s1.trans hS2
        refine ⟨_, rfl, rfl, _, rfl, ifF (by simp) ?_⟩
        refine ⟨_, rfl, rixT (sqT_same hS02 hb) rfl ⟨_, rfl, rixT hd rfl ⟨_, _, rfl, .inr hd2, rfl, flat_strs _, decide (z ∈ anc es u), ?_, fun v H3 hS3 hv3 => ?_⟩⟩⟩
        · show [V.bl (inV (.str z) ((anc es u).map V.str))] = _
          rw [inV_strs]
        · refine ⟨_, rfl, by show 1 ≤ sizeLine; decide, fun L hL => ⟨by show 2 ≤ sizeLine; decide, fun q hq => k _ _ (hS02.trans (hS3.trans ((same_new hL).trans (same_new hq)))) ?_⟩⟩
          have e : inScope (.in_ z) u (tell es) = (decide (z ∈ anc es u), [.anc u]) := by
            unfold inScope
            simp only
            rw [if_neg hz]
            rfl
          rw [e]
          exact dp_new hq (.cons (dp_same (same_new hL) hv3) (.cons (dp_newL hL (.cons (dp_same (hS2.trans hS3) hread) .nil)) .nil))
theorem ok_condition_state (T : Top w K mg) : O_condition_state P w K mg base := by
  refine mk_ok (f_condition_state T) sc_condition_state rfl rfl (fun _ _ _ _ _ _ us hl => match us, hl with | [_], _ => rfl) (fun vs H Q E h => ?_) (fun f cdv A outer s H vs Q E hr h => ?_)
  · obtain ⟨v, o, rfl, _⟩ := h
    rfl
  · obtain ⟨v, o, rfl, hd, ho, k⟩ := h
    have sc := sc_condition_state
    refine ⟨_, (pss_cons (ps_if (pt_cmpR (op_eqD (u64 hr)) (pv 0) (pe_tup (pa_cons pe_str (pa_cons (pe_gref (g_YES T)) pa_nil))) (nomark _))
      (pss_one (ps_ret (pe_tup (pa_cons pe_str pa_nil))))
      pss_nil)
      (pss_cons (ps_if (pt_cmpR (op_eqD (u64 hr)) (pv 0) (pe_tup (pa_cons pe_str (pa_cons (pe_gref (g_NO T)) pa_nil))) (nomark _))
      (pss_one (ps_ret (pe_tup (pa_cons pe_str pa_nil))))
      pss_nil)
      (pss_one (ps_ret (pe_ifExp (pt_cmpR op_eq (pe_ix ix_seq (pv 0) pe_int (fun _ _ => rfl)) pe_str (nomark _)) (pe_gref (g_WRONG_KIND T)) (pv 0)))))), ?_⟩
    refine ⟨_, rfl, by show 2 ≤ sizeLine; decide, fun p hp => ?_⟩
    have s1 := same_new (o := HO.tup [V.str "value", .ref (He.ga K "YES")]) hp
    refine ⟨encOut o, encOut (truth true), dp_same s1 hd, dp_new hp (.cons (.str _) (.cons (yes_dp T H) .nil)), shp_out ho, shp_out trivial, _, rfl, ?_⟩
    rw [eqv_out]
    by_cases h1 : o = truth true
    · refine ifT (by simpa using h1) ⟨by show 1 ≤ sizeLine; decide, fun q hq => k _ _ (s1.trans (same_new hq)) ?_⟩
      rw [h1]
      exact dp_new hq (.cons (.str _) .nil)
    · refine ifF (by simpa using h1) ⟨_, rfl, by show 2 ≤ sizeLine; decide, fun p2 hp2 => ?_⟩
      have s2 := same_new (o := HO.tup [V.str "value", .ref (He.ga K "NO")]) hp2
      have s12 := s1.trans s2
      refine ⟨encOut o, encOut (truth false), dp_same s12 hd, dp_new hp2 (.cons (.str _) (.cons (no_dp T _) .nil)), shp_out ho, shp_out trivial, _, rfl, ?_⟩
      rw [eqv_out]
      by_cases h2 : o = truth false
      · refine ifT (by simpa using h2) ⟨by show 1 ≤ sizeLine; decide, fun q hq => k _ _ (s12.trans (same_new hq)) ?_⟩
        rw [h2]
        exact dp_new hq (.cons (.str _) .nil)
      · refine ifF (by simpa using h2) ?_
        have hd2 := dp_same s12 hd
        cases o with
        | value x =>
          obtain ⟨a, y, e, hq, _⟩ := out_hd hd2
          subst e
          simp only at hq
          refine ⟨_, rfl, rixT hq rfl ⟨rfl, _, rfl, ifT (by decide +kernel) (k _ _ s12 ?_)⟩⟩
          have e : condSt (.value x) = .fails "wrong kind" := by
            unfold condSt
            split
            · rename_i h; cases h; exact absurd rfl h1
            · rename_i h; cases h; exact absurd rfl h2
            · rfl
            · rename_i h; cases h
          rw [e]
          exact wk_dp T _
        | fails z =>
          obtain ⟨a, y, e, hq, _⟩ := out_hd hd2
          subst e
          simp only at hq
          exact ⟨_, rfl, rixT hq rfl ⟨rfl, _, rfl, ifF (by decide +kernel) ⟨_, rfl, k _ _ s12 hd2⟩⟩⟩
theorem ok_fits (T : Top w K mg) (h_kind_of : O_kind_of P w K mg base) : O_fits P w K mg base := by
  refine mk_ok (f_fits T) sc_fits rfl rfl (fun _ _ _ _ _ _ us hl => match us, hl with | [_, _], _ => rfl) (fun vs H Q E h => ?_) (fun f cdv A outer s H vs Q E hr h => ?_)
  · obtain ⟨v, z, sc0, rfl, _⟩ := h
    rfl
  · obtain ⟨v, z, sc0, rfl, hd, hg, k⟩ := h
    have sc := sc_fits
    refine ⟨_, (pss_cons (ps_if (pt_cmpR op_eq (pe_ix ix_seq (pv 0) pe_int (fun _ _ => rfl)) pe_str (nomark _))
      (pss_one (ps_ret (pe_cmpR op_eq (pe_u h_kind_of hr rfl (g_kind_of T) (pa_cons (pe_ix ix_seq (pv 0) pe_int (fun _ _ => rfl)) pa_nil)) (pv 1) (nomark _))))
      pss_nil)
      (pss_one (ps_ret (pe_or (pe_cmpR op_ne (pe_ix ix_seq (pv 0) pe_int (fun _ _ => rfl)) pe_str (nomark _)) (pe_one (pe_cmpR op_eq (pe_ix ix_seq (pv 0) pe_int (fun _ _ => rfl)) (pv 1) (nomark _))))))), ?_⟩
    have fin : ∀ b H', Same H H' → fits sc0 z = b → Q (.bl b) H' := fun b H' hS e => by rw [← e]; exact k H' hS
    cases sc0 with
    | any =>
      obtain ⟨b, x, rfl, hb, h1⟩ := dp1 hd
      obtain rfl := dpS h1
      exact ⟨_, rfl, rixT hb rfl ⟨rfl, _, rfl, ifF (by decide +kernel) ⟨_, rfl, rixT hb rfl ⟨rfl, _, rfl, ifT (by decide +kernel) (fin true H (Same.refl _) rfl)⟩⟩⟩⟩
    | kind y0 =>
      obtain ⟨b, x, y, rfl, hb, h1, h2⟩ := dp2 hd
      obtain rfl := dpS h1
      obtain rfl := dpS h2
      refine ⟨_, rfl, rixT hb rfl ⟨rfl, _, rfl, ifF (by decide +kernel) ⟨_, rfl, rixT hb rfl ⟨rfl, _, rfl, ifF (by decide +kernel) ⟨_, rfl, rixT hb rfl ⟨_, rfl, rfl, fin _ H (Same.refl _) ?_⟩⟩⟩⟩⟩⟩
      simp [fits]
    | is_ u =>
      obtain ⟨b, x, y, rfl, hb, h1, h2⟩ := dp2 hd
      obtain rfl := dpS h1
      obtain rfl := dpS h2
      refine ⟨_, rfl, rixT hb rfl ⟨rfl, _, rfl, ifT (by decide +kernel) ⟨_, rfl, rixT hb rfl ⟨u, rfl, Nat.le_trans (uid_len hg) (by decide), fun H1 hS1 => ⟨_, rfl, rfl, fin _ H1 hS1 ?_⟩⟩⟩⟩⟩
      simp [fits]
    | in_ u =>
      obtain ⟨b, x, y, rfl, hb, h1, h2⟩ := dp2 hd
      obtain rfl := dpS h1
      exact ⟨_, rfl, rixT hb rfl ⟨rfl, _, rfl, ifF (by decide +kernel) ⟨_, rfl, rixT hb rfl ⟨rfl, _, rfl, ifT (by decide +kernel) (fin true H (Same.refl _) rfl)⟩⟩⟩⟩
theorem ok_can_apply (T : Top w K mg) (h_fits : O_fits P w K mg base) : O_can_apply P w K mg base := by
  refine mk_ok (f_can_apply T) sc_can_apply rfl rfl (fun _ _ _ _ _ _ us hl => match us, hl with | [_, _], _ => rfl) (fun vs H Q E h => ?_) (fun f cdv A outer s H vs Q E hr h => ?_)
  · obtain ⟨v, c, p, kd, rfl, _⟩ := h
    rfl
  · obtain ⟨v, c, p, kd, rfl, hd, hc, hg, k⟩ := h
    have sc := sc_can_apply
    refine ⟨_, (pss_cons (ps_asg (pv 1) (pg_tup rfl (pgs_cons (pg_name (i := 2) sc.nd rfl (Or.inl rfl)) (pgs_cons (pg_name (i := 3) sc.nd rfl (Or.inl rfl)) (pgs_cons (pg_name (i := 4) sc.nd rfl (Or.inl rfl)) pgs_nil)))))
      (pss_cons (ps_if (PW.pt (pw_and (pt_cmpR op_notN (pe_ix ix_seq (pv 0) pe_int (fun _ _ => rfl)) pe_non (nomark _)) (pw_and1 (pt_cmpR op_notIn_seq (pv 3) (pe_ix ix_seq (pv 0) pe_int (fun _ _ => rfl)) rfl))))
      (pss_one (ps_ret pe_bl))
      pss_nil)
      (pss_one (ps_ret (pe_and (pe_u h_fits hr rfl (g_fits T) (pa_cons (pe_ix ix_seq (pv 0) pe_int (fun _ _ => rfl)) (pa_cons (pv 2) pa_nil))) (pe_one (pe_u h_fits hr rfl (g_fits T) (pa_cons (pe_ix ix_seq (pv 0) pe_int (fun _ _ => rfl)) (pa_cons (pv 4) pa_nil))))))))), ?_⟩
    obtain ⟨b, x1, x2, x3, x4, x5, x6, rfl, hb, h1, h2, h3, h4, h5, h6⟩ := dp6 hd
    obtain ⟨d, y1, y2, y3, rfl, hdq, q1, q2, q3⟩ := dp3 hc
    obtain rfl := dpS q1
    obtain rfl := dpS q2
    obtain rfl := dpS q3
    have tail : actOk p kd.2.1 = true → ∃ v3 c3 sc3, [x3, .str kd.1] = [v3, .str c3] ∧ Dp K H v3 (encScope sc3) ∧ PolGood.ScopeGood sc3 ∧ ∀ H', Same H H' → ∃ c0, V.bl (fits sc3 c3) = .bl c0 ∧ if c0 = true then (∀ H'', Same H' H'' → Q (.bl (fits p.rs kd.2.2)) H'') else Q (.bl false) H' := fun ha => by
      refine ⟨x3, kd.1, p.pr, rfl, h3, hg.pr, fun H' hS => ⟨_, rfl, ifB (fun hf => ?_) (fun hf => ?_)⟩⟩
      · intro H'' hS'
        have := k H'' (hS.trans hS')
        unfold canApply at this
        rw [ha, hf] at this
        exact this
      · have := k H' hS
        unfold canApply at this
        rw [ha, hf] at this
        exact this
    have go : actOk p kd.2.1 = true → tAndV (tCall (sp_fits K) [] E0 (tCons (tOp (rIx K) (tVar 0) (tC (.int 2))) (tCons (tVar 2) tNil))) (tCall (sp_fits K) [] E0 (tCons (tOp (rIx K) (tVar 0) (tC (.int 4))) (tCons (tVar 4) tNil))) [some (.ref b), some (.ref d), some (.str kd.1), some (.str kd.2.1), some (.str kd.2.2)] H Q := fun ha => by
      obtain ⟨v3, c3, sc3, e, t1, t2, t3⟩ := tail ha
      refine ⟨_, rfl, rixT hb rfl ⟨_, rfl, v3, c3, sc3, e, t1, t2, fun H' hS => ?_⟩⟩
      obtain ⟨c0, e0, hif⟩ := t3 H' hS
      refine ⟨c0, e0, ?_⟩
      cases c0 with
      | true =>
        rw [if_pos rfl] at hif
        exact ifT rfl ⟨_, rfl, rixT (sqT_same hS hb) rfl ⟨_, rfl, x5, kd.2.2, p.rs, rfl, dp_same hS h5, hg.rs, hif⟩⟩
      | false =>
        rw [if_neg Bool.false_ne_true] at hif
        exact ifF rfl hif
    refine ⟨_, rfl, gp3 hdq ⟨_, rfl, rixT hb rfl ⟨rfl, _, rfl, ?_⟩⟩⟩
    cases ha : p.acts with
    | none =>
      rw [ha] at h4
      obtain rfl := dpN h4
      exact ifF (by simp) (ifF rfl (go (by simp [actOk, ha])))
    | some l =>
      rw [ha] at h4
      obtain ⟨g, zs, rfl, hgq, hzs⟩ := dp_tup h4
      obtain rfl := dpAll_strs hzs
      refine ifT (by simp) ⟨_, rfl, _, rfl, rixT hb rfl ⟨_, _, rfl, .inr hgq, rfl, flat_strs _, _, rfl, ?_⟩⟩
      show if (!inV (.str kd.2.1) (l.map V.str)) = true then _ else _
      rw [inV_strs]
      by_cases hm : kd.2.1 ∈ l
      · exact ifF (by simp [hm]) (go (by simp [actOk, ha, hm]))
      · refine ifT (by simp [hm]) ?_
        have := k H (Same.refl _)
        have e : canApply p kd = false := by simp [canApply, actOk, ha, hm]
        rw [e] at this
        exact this
end
end FF
set_option Elab.async false
set_option linter.all false
set_option maxRecDepth 100000
set_option maxHeartbeats 4000000
namespace FF
open PySem PySem.Spec PyProof.Rows L2
local macro_rules | `(tactic| walk_at "r") => `(tactic| repeat (first
   | refine ⟨_, rfl, ?_⟩
   | refine ⟨_, _, rfl, rfl, ?_⟩
   | refine ⟨rfl, ?_⟩
   | refine rixT (by assumption) rfl ?_
   | refine rixL (by assumption) rfl ?_
   | refine ifT (by decide +kernel) ?_
   | refine ifF (by decide +kernel) ?_))
section
variable {P : Program} {w : World} {K : PySem.W.Frag} {mg : Str → Option Value} {base : Heap}

theorem all_reads {l : List Read} (h : ∀ r ∈ l, readOk r = true) : (l.map encRead).all txt1 = true := by
  rw [List.all_map, List.all_eq_true]
  exact fun r hr => txt_read (h r hr)
theorem off_dp {w : World} {mg : Str → Option Value} (T : Top w K mg) (H : Hp) : Dp K H (.ref (He.ga K "OFF")) (encSt .off) := .tup (t_OFF T H) (.cons (.str _) .nil)
theorem inScope_ok {es : List Ent} {sc : Scope} {u : Str} (hu : isUid u = true) : (∀ r ∈ (inScope sc u (tell es)).2, readOk r = true) ∧ (inScope sc u (tell es)).2.length ≤ 1 := by
  cases sc with
  | any => exact ⟨fun r h => (nomatch h), Nat.zero_le _⟩
  | kind k => exact ⟨fun r h => (nomatch h), Nat.zero_le _⟩
  | is_ v => exact ⟨fun r h => (nomatch h), Nat.zero_le _⟩
  | in_ v =>
    unfold inScope
    simp only
    split
    · exact ⟨fun r h => (nomatch h), Nat.zero_le _⟩
    · refine ⟨fun r h => ?_, Nat.le_refl _⟩
      rw [List.mem_singleton.mp h]
      exact read_anc hu
section
variable {p : Pol} {rq : Req} {tl : Read → Told}
theorem polSt_0 (h : actOk p rq.a = false) : polSt p rq tl = (.off, []) := by unfold polSt; rw [if_pos h]
theorem polSt_1 (h : actOk p rq.a = true) (h1 : (inScope p.pr rq.p tl).1 = false) : polSt p rq tl = (.off, joinL [] (inScope p.pr rq.p tl).2) := by
  unfold polSt
  rw [if_neg (by rw [h]; simp)]
  simp only
  rw [if_pos h1]
theorem polSt_2 (h : actOk p rq.a = true) (h1 : (inScope p.pr rq.p tl).1 = true) (h2 : (inScope p.rs rq.r tl).1 = false) : polSt p rq tl = (.off, joinL (joinL [] (inScope p.pr rq.p tl).2) (inScope p.rs rq.r tl).2) := by
  unfold polSt
  rw [if_neg (by rw [h]; simp)]
  simp only
  rw [if_neg (by rw [h1]; simp), if_pos h2]
theorem polSt_3 (h : actOk p rq.a = true) (h1 : (inScope p.pr rq.p tl).1 = true) (h2 : (inScope p.rs rq.r tl).1 = true) :
    polSt p rq tl = (condSt (evalM p.cond rq tl).1, joinL (joinL (joinL [] (inScope p.pr rq.p tl).2) (inScope p.rs rq.r tl).2) (evalM p.cond rq tl).2) := by
  unfold polSt
  rw [if_neg (by rw [h]; simp)]
  simp only
  rw [if_neg (by rw [h1]; simp), if_neg (by rw [h2]; simp)]
end
theorem polSt_ok {es : List Ent} {p : Pol} {rq : Req} (hok : DbOk es) (hg : PolG p) (hr : ReqGood rq) : (∀ r ∈ (polSt p rq (tell es)).2, readOk r = true) ∧ (polSt p rq (tell es)).2.length ≤ 40 := by
  obtain ⟨a1, a2⟩ := inScope_ok (es := es) (sc := p.pr) hr.p
  obtain ⟨b1, b2⟩ := inScope_ok (es := es) (sc := p.rs) hr.r
  obtain ⟨_, c1, c2⟩ := eval_ok hok hg.ok hg.vals hr
  have hlen := hg.len
  have l1 := joinL_len (inScope p.pr rq.p (tell es)).2 []
  have l2 := joinL_len (inScope p.rs rq.r (tell es)).2 (joinL [] (inScope p.pr rq.p (tell es)).2)
  have l3 := joinL_len (evalM p.cond rq (tell es)).2 (joinL (joinL [] (inScope p.pr rq.p (tell es)).2) (inScope p.rs rq.r (tell es)).2)
  rw [List.length_nil] at l1
  have o1 : ∀ r ∈ joinL [] (inScope p.pr rq.p (tell es)).2, readOk r = true := fun r h => (mem_joinL.mp h).elim (fun h => (nomatch h)) (a1 r)
  have o2 : ∀ r ∈ joinL (joinL [] (inScope p.pr rq.p (tell es)).2) (inScope p.rs rq.r (tell es)).2, readOk r = true := fun r h => (mem_joinL.mp h).elim (o1 r) (b1 r)
  cases ha : actOk p rq.a with
  | false => rw [polSt_0 ha]; exact ⟨fun r h => (nomatch h), Nat.zero_le _⟩
  | true =>
    cases h1 : (inScope p.pr rq.p (tell es)).1 with
    | false => rw [polSt_1 ha h1]; exact ⟨o1, by simp only; omega⟩
    | true =>
      cases h2 : (inScope p.rs rq.r (tell es)).1 with
      | false => rw [polSt_2 ha h1 h2]; exact ⟨o2, by simp only; omega⟩
      | true =>
        rw [polSt_3 ha h1 h2]
        exact ⟨fun r h => (mem_joinL.mp h).elim (o2 r) (c1 r), by simp only; omega⟩
theorem ok_policy_state (T : Top w K mg) (h_condition_state : O_condition_state P w K mg base) (h_evaluate : O_evaluate P w K mg base) (h_in_scope : O_in_scope P w K mg base) (h_join_reads : O_join_reads P w K mg base) : O_policy_state P w K mg base := by
  refine mk_ok (f_policy_state T) sc_policy_state rfl rfl (fun _ _ _ _ _ _ us hl => match us, hl with | [_, _, _], _ => rfl) (fun vs H Q E h => ?_) (fun f cdv A outer s H vs Q E hr h => ?_)
  · obtain ⟨v, q, a, p, rq, es, rfl, _⟩ := h
    rfl
  · obtain ⟨v, q, a, p, rq, es, rfl, hd, hq, hdb, hg, hrg, k⟩ := h
    have sc := sc_policy_state
    refine ⟨_, (pss_cons (ps_asg (pv 0) (pg_tup rfl (pgs_cons (pg_name (i := 3) sc.nd rfl (Or.inl rfl)) (pgs_cons (pg_name (i := 3) sc.nd rfl (Or.inl rfl)) (pgs_cons (pg_name (i := 4) sc.nd rfl (Or.inl rfl)) (pgs_cons (pg_name (i := 5) sc.nd rfl (Or.inl rfl)) (pgs_cons (pg_name (i := 6) sc.nd rfl (Or.inl rfl)) (pgs_cons (pg_name (i := 7) sc.nd rfl (Or.inl rfl)) pgs_nil))))))))
      (pss_cons (ps_if (PW.pt (pw_and (pt_cmpR op_notN (pv 5) pe_non (nomark _)) (pw_and1 (pt_cmpR op_notIn_seq (pe_ix ix_seq (pv 1) pe_int (fun _ _ => rfl)) (pv 5) rfl))))
      (pss_one (ps_ret (pe_tup (pa_cons (pe_gref (g_OFF T)) (pa_cons (pe_lst pa_nil) pa_nil)))))
      pss_nil)
      (pss_cons (ps_set (i := 8) sc.nd rfl (Or.inl rfl) (pe_lst pa_nil))
      (pss_cons (ps_for PassesOwn.never rfl (pi_tup (pe_tup (pa_cons (pe_tup (pa_cons (pv 4) (pa_cons (pe_ix ix_seq (pv 1) pe_int (fun _ _ => rfl)) pa_nil))) (pa_cons (pe_tup (pa_cons (pv 6) (pa_cons (pe_ix ix_seq (pv 1) pe_int (fun _ _ => rfl)) pa_nil))) pa_nil)))) (pg_tup rfl (pgs_cons (pg_name (i := 9) sc.nd rfl (Or.inl rfl)) (pgs_cons (pg_name (i := 10) sc.nd rfl (Or.inl rfl)) pgs_nil)))
      (pss_cons (ps_asg (pe_u h_in_scope hr rfl (g_in_scope T) (pa_cons (pv 9) (pa_cons (pv 10) (pa_cons (pv 2) pa_nil)))) (pg_tup rfl (pgs_cons (pg_name (i := 11) sc.nd rfl (Or.inl rfl)) (pgs_cons (pg_name (i := 12) sc.nd rfl (Or.inl rfl)) pgs_nil))))
        (pss_cons (ps_set (i := 8) sc.nd rfl (Or.inl rfl) (pe_u h_join_reads hr rfl (g_join_reads T) (pa_cons (pv 8) (pa_cons (pv 12) pa_nil))))
        (pss_cons (ps_if (pt_cmpR op_eq (pe_ix ix_seq (pv 11) pe_int (fun _ _ => rfl)) pe_str (nomark _))
        (pss_one (ps_ret (pe_tup (pa_cons (pv 11) (pa_cons (pv 8) pa_nil)))))
        pss_nil)
        (pss_one (ps_if (pt_cmpR (op_eqD (u64 hr)) (pe_ix ix_seq (pv 11) pe_int (fun _ _ => rfl)) (pe_gref (g_NO T)) (nomark _))
        (pss_one (ps_ret (pe_tup (pa_cons (pe_gref (g_OFF T)) (pa_cons (pv 8) pa_nil)))))
        pss_nil))))))
      (pss_cons (ps_asg (pe_u h_evaluate hr rfl (g_evaluate T) (pa_cons (pv 7) (pa_cons (pv 1) (pa_cons (pv 2) pa_nil)))) (pg_tup rfl (pgs_cons (pg_name (i := 11) sc.nd rfl (Or.inl rfl)) (pgs_cons (pg_name (i := 12) sc.nd rfl (Or.inl rfl)) pgs_nil))))
      (pss_one (ps_ret (pe_tup (pa_cons (pe_u h_condition_state hr rfl (g_condition_state T) (pa_cons (pv 11) pa_nil)) (pa_cons (pe_u h_join_reads hr rfl (g_join_reads T) (pa_cons (pv 8) (pa_cons (pv 12) pa_nil))) pa_nil)))))))))), ?_⟩
    obtain ⟨b, x1, x2, x3, x4, x5, x6, rfl, hb, h1, h2, h3, h4, h5, h6⟩ := dp6 hd
    obtain ⟨g, z1, z2, z3, z4, rfl, hgq, hz1, hz2, hz3, hz4⟩ := dp4 hq
    obtain rfl := dpS hz1
    obtain rfl := dpS hz2
    obtain rfl := dpS hz3
    refine ⟨_, rfl, gp6 hb ?_⟩
    -- the scopes, the condition
    have body : actOk p rq.a = true → ∀ t : TS, t = t → True := fun _ _ _ => trivial
    cases hact : actOk p rq.a with
    | false =>
      have e0 := polSt_0 (tl := tell es) hact
      cases ha : p.acts with
      | none => simp [actOk, ha] at hact
      | some l =>
        rw [ha] at h4
        obtain ⟨d, zs, rfl, hdq, hzs⟩ := dp_tup h4
        obtain rfl := dpAll_strs hzs
        have hm : rq.a ∉ l := by simpa [actOk, ha] using hact
        refine ⟨_, rfl, rfl, _, rfl, ifT (by simp) ⟨_, rfl, rixT hgq rfl ⟨_, rfl, _, _, rfl, .inr hdq, rfl, flat_strs _, _, rfl, ?_⟩⟩⟩
        show if (!inV (.str rq.a) (l.map V.str)) = true then _ else _
        rw [inV_strs]
        refine ifT (by simp [hm]) ⟨Nat.zero_le _, fun L hL => ⟨by show 2 ≤ sizeLine; decide, fun q0 hq0 => k _ _ ((same_new hL).trans (same_new hq0)) ?_⟩⟩
        rw [e0]
        exact dp_new hq0 (.cons (off_dp T _) (.cons (dp_newL (ds := []) hL .nil) .nil))
    | true =>
      have pass : ∀ {A1 : Prop}, A1 → (∃ k0, V.bl (!decide (x4 = .non)) = .bl k0 ∧ if k0 = true then (∃ p0 xs0, x4 = .ref p0 ∧ (SqL K H p0 xs0 ∨ SqT K H p0 xs0) ∧ xs0.all flatV = true ∧ (!inV (.str rq.a) xs0) = false) else True) := fun {A1} _ => by
        cases ha : p.acts with
        | none =>
          rw [ha] at h4
          obtain rfl := dpN h4
          exact ⟨false, by simp, ifF rfl trivial⟩
        | some l =>
          rw [ha] at h4
          obtain ⟨d, zs, rfl, hdq, hzs⟩ := dp_tup h4
          obtain rfl := dpAll_strs hzs
          refine ⟨true, by simp, ifT rfl ⟨d, _, rfl, .inr hdq, flat_strs _, ?_⟩⟩
          rw [inV_strs]
          simpa [actOk, ha] using hact
      obtain ⟨k0, ek, hk0⟩ := pass trivial
      have go : ∀ {t u v : TS} {D : Ends} {σ : L2.St}, (tSeq u v) D σ H → σ[5]? = some (some x4) → σ[1]? = some (some (V.ref g)) →
          tSeq (tIfS (tAnd (tTest (tOp (fun x y H Q => y = .non ∧ Q (.bl (!decide (x = .non))) H) (tVar 5) (tC .non))) (tTest (tOp (rIn K true) (tOp (rIx K) (tVar 1) (tC (.int 1))) (tVar 5)))) t tNext) (tSeq u v) D σ H := by
        intro t u v D σ hrest h5' h1'
        refine ⟨_, h5', rfl, k0, ek, ?_⟩
        cases k0 with
        | false => exact ifF rfl (ifF rfl hrest)
        | true =>
          rw [if_pos rfl] at hk0
          obtain ⟨p0, xs0, e, hsq, hfl, hin⟩ := hk0
          refine ifT rfl ⟨_, h1', rixT hgq rfl ⟨_, h5', p0, xs0, e, hsq, rfl, hfl, _, rfl, ?_⟩⟩
          show if (!inV (.str rq.a) xs0) = true then _ else _
          exact ifF hin hrest
      refine go ?_ rfl rfl
      refine ⟨Nat.zero_le _, fun L hL => ?_⟩
      have sL := same_new (o := HO.lst []) hL
      refine ⟨_, rfl, _, rfl, rixT (sqT_same sL hgq) rfl ⟨by show 2 ≤ sizeLine; decide, fun U1 hU1 => ?_⟩⟩
      have sU1 := same_new (o := HO.tup [x3, .str rq.p]) hU1
      have s1 := sL.trans sU1
      refine ⟨_, rfl, _, rfl, rixT (sqT_same s1 hgq) rfl ⟨by show 2 ≤ sizeLine; decide, fun U2 hU2 => ?_⟩⟩
      have sU2 := same_new (o := HO.tup [x5, .str rq.r]) hU2
      have s2 := s1.trans sU2
      refine ⟨by show 2 ≤ sizeLine; decide, fun U3 hU3 => ?_⟩
      have sU3 := same_new (o := HO.tup [V.ref U1, .ref U2]) hU3
      have s3 := s2.trans sU3
      generalize hH3 : upd _ U3 _ = H3 at sU3 s3
      have hq1 : SqT K H3 U1 [x3, .str rq.p] := sqT_same (sU2.trans sU3) (SqT.of upd_same)
      have hq2 : SqT K H3 U2 [x5, .str rq.r] := sqT_same sU3 (SqT.of upd_same)
      have hq3 : SqT K H3 U3 [.ref U1, .ref U2] := by rw [← hH3]; exact SqT.of upd_same
      have hL3 : H3 L = some (.lst []) := (sU1.trans (sU2.trans sU3)) _ _ upd_same
      refine ⟨U3, rfl, ⟨_, hq3⟩, for_it (walk_tup (xs := [.ref U1, .ref U2])) (fun i σ H1 => (∃ o9 o10 o11 o12 Li, σ = [some (.ref b), some (.ref g), some (.ref a), some x2, some x3, some x4, some x5, some x6, some (.ref Li), o9, o10, o11, o12] ∧ ∃ Ri : List Read, Dp K H1 (.ref Li) (.list (Ri.map encRead)) ∧ (∀ r ∈ Ri, readOk r = true) ∧ Ri.length ≤ i ∧
          (i = 1 → (inScope p.pr rq.p (tell es)).1 = true ∧ Ri = joinL [] (inScope p.pr rq.p (tell es)).2) ∧
          (i = 2 → (inScope p.pr rq.p (tell es)).1 = true ∧ (inScope p.rs rq.r (tell es)).1 = true ∧ Ri = joinL (joinL [] (inScope p.pr rq.p (tell es)).2) (inScope p.rs rq.r (tell es)).2)) ∧ Same H H1 ∧ SqT K H1 U3 [.ref U1, .ref U2] ∧ (∀ {c xs}, SqT K H3 c xs → SqT K H1 c xs))
        ⟨⟨_, _, _, _, L, rfl, [], .lst (sqN hL3) .nil, fun r h => (nomatch h), Nat.le_refl _, fun h => absurd h (by decide), fun h => absurd h (by decide)⟩, s3, hq3, fun h => h⟩ (fun _ _ _ _ h => h.2.2.1) ?_ ?_⟩
      · rintro i x σ H0 H1 hi ⟨⟨o9, o10, o11, o12, Li, rfl, Ri, hL, hRo, hRl, hR1, hR2⟩, hS1, hU3, hU1⟩ ⟨rfl, hx⟩
        rcases (show i = 0 ∨ i = 1 by simp at hi; omega) with rfl | rfl
        · obtain rfl : Ri = [] := List.length_eq_zero_iff.mp (by omega)
          obtain ⟨r0, hr0, hUx, hsc⟩ : ∃ vsc, Dp K H1 vsc (encScope p.pr) ∧ x = V.ref U1 ∧ SqT K H1 U1 [vsc, .str rq.p] := ⟨x3, dp_same hS1 h3, (show V.ref U1 = x by simpa using hx).symm, hU1 hq1⟩
          subst hUx
          refine gp2 hsc ⟨_, rfl, _, rfl, _, rfl, r0, rq.p, a, p.pr, es, rfl, hr0, hrg.p, hg.pr, db_same hS1 hdb, fun v H2 hS2 hv => ?_⟩
          obtain ⟨c, w1, w2, rfl, hc, k1, k2⟩ := dp2 hv
          obtain ⟨c1, y1, rfl, hc1, hy1⟩ := out_hd k1
          have hyv := hy1 _ rfl
          replace hc1 : SqT K H2 c1 [.str "value", y1] := hc1
          obtain ⟨hro, hrl⟩ := inScope_ok (es := es) (sc := p.pr) hrg.p
          refine gp2 hc ⟨_, rfl, _, rfl, .ref Li, w2, ([] : List Read).map encRead, (inScope p.pr rq.p (tell es)).2.map encRead, rfl, .inl (dp_same hS2 hL), .inl k2, ⟨all_reads (fun r h => (nomatch h)), all_reads hro⟩, by rw [List.length_map, List.length_map]; omega, fun D H3 hS3 hD0 hD => ?_⟩
          rw [joinD_map eqv_read] at hD
          have hS13 := hS2.trans hS3
          refine ⟨_, rfl, rixT (sqT_same hS3 hc1) rfl ⟨rfl, _, rfl, ifF (by decide +kernel) ⟨_, rfl, rixT (sqT_same hS3 hc1) rfl ⟨encVal (.sc (.tr (inScope p.pr rq.p (tell es)).1)), encVal (.sc (.tr false)), dp_same hS3 hyv, no_dp T _, shp_val trivial, shp_val trivial, _, rfl, ?_⟩⟩⟩⟩
          rw [eqv_val]
          refine ifB (fun hf => ?_) (fun hf => ?_)
          · have hf' : (inScope p.pr rq.p (tell es)).1 = false := by simpa using hf
            refine ⟨_, rfl, by show 2 ≤ sizeLine; decide, fun q0 hq0 => k _ _ ((hS1.trans hS13).trans (same_new hq0)) ?_⟩
            rw [polSt_1 hact hf']
            exact dp_new hq0 (.cons (off_dp T _) (.cons hD .nil))
          · have hf' : (inScope p.pr rq.p (tell es)).1 = true := by simpa using hf
            exact ⟨⟨_, _, _, _, D, rfl, joinL [] (inScope p.pr rq.p (tell es)).2, hD, fun r h => (mem_joinL.mp h).elim (fun h => (nomatch h)) (hro r), by have := joinL_len (inScope p.pr rq.p (tell es)).2 []; simp only [List.length_nil] at this; omega, fun _ => ⟨hf', rfl⟩, fun h => absurd h (by decide)⟩, hS1.trans hS13, sqT_same hS13 hU3, fun h => sqT_same hS13 (hU1 h)⟩
        · obtain ⟨h1a, h1b⟩ := hR1 rfl
          obtain ⟨r0, hr0, hUx, hsc⟩ : ∃ vsc, Dp K H1 vsc (encScope p.rs) ∧ x = V.ref U2 ∧ SqT K H1 U2 [vsc, .str rq.r] := ⟨x5, dp_same hS1 h5, (show V.ref U2 = x by simpa using hx).symm, hU1 hq2⟩
          subst hUx
          refine gp2 hsc ⟨_, rfl, _, rfl, _, rfl, r0, rq.r, a, p.rs, es, rfl, hr0, hrg.r, hg.rs, db_same hS1 hdb, fun v H2 hS2 hv => ?_⟩
          obtain ⟨c, w1, w2, rfl, hc, k1, k2⟩ := dp2 hv
          obtain ⟨c1, y1, rfl, hc1, hy1⟩ := out_hd k1
          have hyv := hy1 _ rfl
          replace hc1 : SqT K H2 c1 [.str "value", y1] := hc1
          obtain ⟨hro, hrl⟩ := inScope_ok (es := es) (sc := p.rs) hrg.r
          refine gp2 hc ⟨_, rfl, _, rfl, .ref Li, w2, Ri.map encRead, (inScope p.rs rq.r (tell es)).2.map encRead, rfl, .inl (dp_same hS2 hL), .inl k2, ⟨all_reads hRo, all_reads hro⟩, by rw [List.length_map, List.length_map]; omega, fun D H3 hS3 hD0 hD => ?_⟩
          rw [joinD_map eqv_read] at hD
          have hS13 := hS2.trans hS3
          refine ⟨_, rfl, rixT (sqT_same hS3 hc1) rfl ⟨rfl, _, rfl, ifF (by decide +kernel) ⟨_, rfl, rixT (sqT_same hS3 hc1) rfl ⟨encVal (.sc (.tr (inScope p.rs rq.r (tell es)).1)), encVal (.sc (.tr false)), dp_same hS3 hyv, no_dp T _, shp_val trivial, shp_val trivial, _, rfl, ?_⟩⟩⟩⟩
          rw [eqv_val]
          refine ifB (fun hf => ?_) (fun hf => ?_)
          · have hf' : (inScope p.rs rq.r (tell es)).1 = false := by simpa using hf
            refine ⟨_, rfl, by show 2 ≤ sizeLine; decide, fun q0 hq0 => k _ _ ((hS1.trans hS13).trans (same_new hq0)) ?_⟩
            rw [polSt_2 hact h1a hf', ← h1b]
            exact dp_new hq0 (.cons (off_dp T _) (.cons hD .nil))
          · have hf' : (inScope p.rs rq.r (tell es)).1 = true := by simpa using hf
            exact ⟨⟨_, _, _, _, D, rfl, joinL Ri (inScope p.rs rq.r (tell es)).2, hD, fun r h => (mem_joinL.mp h).elim (hRo r) (hro r), by have := joinL_len (inScope p.rs rq.r (tell es)).2 Ri; omega, fun h => absurd h (by decide), fun _ => ⟨h1a, hf', by rw [h1b]⟩⟩, hS1.trans hS13, sqT_same hS13 hU3, fun h => sqT_same hS13 (hU1 h)⟩
      · rintro σ H1 ⟨⟨o9, o10, o11, o12, Li, rfl, Ri, hL, hRo, hRl, hR1, hR2⟩, hS1, hU3, hU1⟩
        obtain ⟨h1a, h2a, h2b⟩ := hR2 rfl
        obtain ⟨oo, c1, c2⟩ := eval_ok hdb.ok hg.ok hg.vals hrg
        have hlen := hg.len
        refine ⟨_, rfl, _, rfl, _, rfl, x6, .ref g, a, es, p.cond, rq, rfl, dp_same hS1 h6, dp_same hS1 hq, db_same hS1 hdb, hg.ok, by omega, hg.vals, hrg.vals, ⟨hrg.p, hrg.a, hrg.r⟩, fun v H2 hS2 hv _ => ?_⟩
        obtain ⟨c, w1, w2, rfl, hc, k1, k2⟩ := dp2 hv
        refine gp2 hc ⟨_, rfl, w1, _, rfl, k1, oo, fun u H3' hS3 hu => ?_⟩
        refine ⟨_, rfl, _, rfl, .ref Li, w2, Ri.map encRead, (evalM p.cond rq (tell es)).2.map encRead, rfl, .inl (dp_same (hS2.trans hS3) hL), .inl (dp_same hS3 k2), ⟨all_reads hRo, all_reads c1⟩, by rw [List.length_map, List.length_map]; simp at hRl; omega, fun D H4 hS4 hD0 hD => ?_⟩
        rw [joinD_map eqv_read] at hD
        refine ⟨by show 2 ≤ sizeLine; decide, fun q0 hq0 => k _ _ (((hS1.trans hS2).trans (hS3.trans hS4)).trans (same_new hq0)) ?_⟩
        rw [polSt_3 hact h1a h2a, ← h2b]
        exact dp_new hq0 (.cons (dp_same hS4 hu) (.cons hD .nil))
end
end FF
set_option Elab.async false
set_option linter.all false
set_option maxRecDepth 100000
set_option maxHeartbeats 4000000
namespace FF
open PySem PySem.Spec PyProof.Rows L2
local macro_rules | `(tactic| walk_at "r") => `(tactic| repeat (first
   | refine ⟨_, rfl, ?_⟩
   | refine ⟨_, _, rfl, rfl, ?_⟩
   | refine ⟨rfl, ?_⟩
   | refine rixT (by assumption) rfl ?_
   | refine rixL (by assumption) rfl ?_
   | refine ifT (by decide +kernel) ?_
   | refine ifF (by decide +kernel) ?_))
section
variable {P : Program} {w : World} {K : PySem.W.Frag} {mg : Str → Option Value} {base : Heap}

def stW : St → Str
  | .off => "off"
  | .sat => "satisfied"
  | .unsat => "unsatisfied"
  | .fails _ => "fails"
def stX : St → List V
  | .fails z => [.str z]
  | _ => []
theorem st_hd {H : Hp} {u : V} {s : St} (h : Dp K H u (encSt s)) : ∃ a, u = .ref a ∧ SqT K H a (.str (stW s) :: stX s) := by
  cases s with
  | off => obtain ⟨a, x, rfl, hq, h1⟩ := dp1 h; obtain rfl := dpS h1; exact ⟨a, rfl, hq⟩
  | sat => obtain ⟨a, x, rfl, hq, h1⟩ := dp1 h; obtain rfl := dpS h1; exact ⟨a, rfl, hq⟩
  | unsat => obtain ⟨a, x, rfl, hq, h1⟩ := dp1 h; obtain rfl := dpS h1; exact ⟨a, rfl, hq⟩
  | fails z => obtain ⟨a, x, y, rfl, hq, h1, h2⟩ := dp2 h; obtain rfl := dpS h1; obtain rfl := dpS h2; exact ⟨a, rfl, hq⟩
theorem stW_needs (s : St) : stW s ≠ "needs" := by cases s <;> (simp only [stW]; decide +kernel)
def encFail (q : Str × Str) : PyData := .tuple [.str q.1, .str q.2]
theorem noLs_fails (l : List (Str × Str)) : noLs (l.map encFail) = true := noLs_map (fun _ => rfl) l
theorem noL_st (s : St) : noL (encSt s) = true := by cases s <;> rfl
theorem pf_snoc (l : List (Pol × St)) (q : Pol × St) : permits (l ++ [q]) = permits l ++ permits [q] ∧ forbids (l ++ [q]) = forbids l ++ forbids [q] ∧ failures (l ++ [q]) = failures l ++ failures [q] := by
  refine ⟨?_, ?_, ?_⟩
  · unfold permits; rw [List.filterMap_append]
  · unfold forbids; rw [List.filterMap_append]
  · unfold failures; rw [List.filterMap_append]
theorem ok_decision (T : Top w K mg) : O_decision P w K mg base := by
  refine mk_ok (f_decision T) sc_decision rfl rfl (fun _ _ _ _ _ _ us hl => match us, hl with | [_], _ => rfl) (fun vs H Q E h => ?_) (fun f cdv A outer s H vs Q E hr h => ?_)
  · obtain ⟨v, l, rfl, _⟩ := h
    rfl
  · obtain ⟨v, l, rfl, hd, hl, k⟩ := h
    have sc := sc_decision
    refine ⟨_, (pss_cons (ps_set (i := 1) sc.nd rfl (Or.inl rfl) (pe_lst pa_nil))
      (pss_cons (ps_set (i := 2) sc.nd rfl (Or.inl rfl) (pe_lst pa_nil))
      (pss_cons (ps_set (i := 3) sc.nd rfl (Or.inl rfl) (pe_lst pa_nil))
      (pss_cons (ps_for PassesOwn.never rfl (pi_list (pv 0)) (pg_tup rfl (pgs_cons (pg_name (i := 4) sc.nd rfl (Or.inl rfl)) (pgs_cons (pg_name (i := 5) sc.nd rfl (Or.inl rfl)) pgs_nil)))
      (pss_one (ps_if (pt_cmpR op_eq (pe_ix ix_seq (pv 5) pe_int (fun _ _ => rfl)) pe_str (nomark _))
        (pss_one (ps_expr (pe_bm PySem.F.plainAttrs_list PySem.F.slot_list_append PySem.F.type_list_append mt_append (pv 3) (pa_cons (pe_tup (pa_cons (pe_ix ix_seq (pv 4) pe_int (fun _ _ => rfl)) (pa_cons (pe_ix ix_seq (pv 5) pe_int (fun _ _ => rfl)) pa_nil))) pa_nil))))
        (pss_one (ps_if (PW.pt (pw_and (pt_cmpR op_eq (pe_ix ix_seq (pv 5) pe_int (fun _ _ => rfl)) pe_str (nomark _)) (pw_and1 (pt_cmpR op_eq (pe_ix ix_seq (pv 4) pe_int (fun _ _ => rfl)) pe_str (nomark _)))))
          (pss_one (ps_expr (pe_bm PySem.F.plainAttrs_list PySem.F.slot_list_append PySem.F.type_list_append mt_append (pv 1) (pa_cons (pe_ix ix_seq (pv 4) pe_int (fun _ _ => rfl)) pa_nil))))
          (pss_one (ps_if (pt_cmpR op_eq (pe_ix ix_seq (pv 5) pe_int (fun _ _ => rfl)) pe_str (nomark _))
            (pss_one (ps_expr (pe_bm PySem.F.plainAttrs_list PySem.F.slot_list_append PySem.F.type_list_append mt_append (pv 2) (pa_cons (pe_ix ix_seq (pv 4) pe_int (fun _ _ => rfl)) pa_nil))))
            pss_nil)))))))
      (pss_cons (ps_if (pt_truth (pv 2) (by intro _; rfl))
      (pss_one (ps_ret (pe_tup (pa_cons pe_bl (pa_cons (pe_callTy call_tuple_of (by rfl) (n_tuple T) (by decide +kernel) (pa_cons (pv 2) pa_nil)) (pa_cons (pe_callTy call_tuple_of (by rfl) (n_tuple T) (by decide +kernel) (pa_cons (pv 3) pa_nil)) pa_nil))))))
      pss_nil)
      (pss_one (ps_ret (pe_tup (pa_cons (pe_cmpR op_gt (pe_callB call_len (by rfl) (n_len T) PySem.boot_len (pa_cons (pv 1) pa_nil)) pe_int (nomark _)) (pa_cons (pe_callTy call_tuple_of (by rfl) (n_tuple T) (by decide +kernel) (pa_cons (pv 1) pa_nil)) (pa_cons (pe_callTy call_tuple_of (by rfl) (n_tuple T) (by decide +kernel) (pa_cons (pv 3) pa_nil)) pa_nil))))))))))), ?_⟩
    obtain ⟨b, xs, rfl, hb, hx⟩ := dp_lst hd
    have hxl := enc_len hx
    refine ⟨Nat.zero_le _, fun L1 hL1 => ⟨Nat.zero_le _, fun L2 hL2 => ⟨Nat.zero_le _, fun L3 hL3 => ?_⟩⟩⟩
    have s1 := same_new (o := HO.lst []) hL1
    have s2 := same_new (o := HO.lst []) hL2
    have s3 := same_new (o := HO.lst []) hL3
    have n12 : L1 ≠ L2 := fun e => by rw [← e, upd_same] at hL2; cases hL2
    have n13 : L1 ≠ L3 := fun e => by rw [← e, s2 _ _ upd_same] at hL3; cases hL3
    have n23 : L2 ≠ L3 := fun e => by rw [← e, upd_same] at hL3; cases hL3
    have hL2' : H L2 = none := by
      cases q : H L2 with
      | none => rfl
      | some o => rw [s1 _ _ q] at hL2; cases hL2
    have hL3' : H L3 = none := by
      cases q : H L3 with
      | none => rfl
      | some o => rw [s2 _ _ (s1 _ _ q)] at hL3; cases hL3
    have hs0 := s1.trans (s2.trans s3)
    generalize hH3 : upd _ L3 _ = H3 at s3 hs0
    have a1 : H3 L1 = some (.lst []) := (s2.trans s3) _ _ upd_same
    have a2 : H3 L2 = some (.lst []) := s3 _ _ upd_same
    have a3 : H3 L3 = some (.lst []) := by rw [← hH3]; exact upd_same
    let St9 : Nat → Hp → Prop := fun i H1 => Same H H1 ∧ H1 L1 = some (.lst ((permits (l.take i)).map V.str)) ∧ H1 L2 = some (.lst ((forbids (l.take i)).map V.str)) ∧ ∃ ys, H1 L3 = some (.lst ys) ∧ DpAll K H1 ys ((failures (l.take i)).map encFail)
    refine ⟨_, rfl, b, rfl, ⟨_, sqL_same hs0 hb⟩, for_it walk_list (fun i σ H1 => (∃ o4 o5, σ = [some (.ref b), some (.ref L1), some (.ref L2), some (.ref L3), o4, o5]) ∧ St9 i H1) ⟨⟨_, _, rfl⟩, hs0, a1, a2, [], a3, .nil⟩ (fun _ _ _ _ h => sqL_same h.2.1 hb) ?_ ?_⟩
    · rintro i z σ H1 H2 hi ⟨⟨o4, o5, rfl⟩, hS, g1, g2, ys, g3, g4⟩ ⟨rfl, hz⟩
      obtain ⟨q, hqi, hqd⟩ := enc_at hx hz
      obtain ⟨c, w1, w2, rfl, hc, k1, k2⟩ := dp2 (dp_same hS hqd)
      obtain ⟨d, v1, v2, v3, v4, v5, v6, rfl, hdq, p1, p2, p3, p4, p5, p6⟩ := dp6 k1
      obtain rfl := dpS p1
      obtain rfl := dpS p2
      obtain ⟨e, rfl, he⟩ := st_hd k2
      have hil : i < l.length := by rw [← hxl]; exact hi
      have htk : l.take (i + 1) = l.take i ++ [q] := by rw [List.take_add_one, hqi]; rfl
      obtain ⟨f1, f2, f3⟩ := pf_snoc (l.take i) q
      rw [← htk] at f1 f2 f3
      have lt9 : ∀ n, n ≤ i → n < sizeLine := fun n hn => szlt (by omega)
      have len1 : (permits (l.take i)).length ≤ i := Nat.le_trans (List.length_filterMap_le _ _) (by rw [List.length_take]; omega)
      have len2 : (forbids (l.take i)).length ≤ i := Nat.le_trans (List.length_filterMap_le _ _) (by rw [List.length_take]; omega)
      have len3 : (failures (l.take i)).length ≤ i := Nat.le_trans (List.length_filterMap_le _ _) (by rw [List.length_take]; omega)
      refine gp2 hc ?_
      cases hs : q.2 with
      | fails z =>
        rw [hs] at he
        simp only [stW, stX] at he
        have e1 : permits [q] = [] := by simp [permits, hs]
        have e2 : forbids [q] = [] := by simp [forbids, hs]
        have e3 : failures [q] = [(q.1.id, z)] := by simp [failures, hs]
        refine ⟨_, rfl, rixT he rfl ⟨rfl, _, rfl, ifT (by decide +kernel) ?_⟩⟩
        refine ⟨_, rfl, .inl ⟨rfl, _, sqN g3⟩, _, rfl, rixT hdq rfl ⟨_, rfl, rixT he rfl ⟨by show 2 ≤ sizeLine; decide, fun U hU => ?_⟩⟩⟩
        have sU := same_new (o := HO.tup [.str q.1.id, .str z]) hU
        have g3' := sU _ _ g3
        have tp := tps_put (o := HO.lst (ys ++ [.ref U])) g3'
        refine ⟨L3, ys, _, rfl, rfl, g3', lt9 _ (by rw [enc_len g4]; exact len3), ⟨_, _, rfl⟩, same_mut (hS.trans sU) hL3', ?_, ?_, _, upd_same, ?_⟩
        · rw [upd_ne n13, f1, e1, List.append_nil]; exact sU _ _ g1
        · rw [upd_ne n23, f2, e2, List.append_nil]; exact sU _ _ g2
        · rw [f3, e3, List.map_append]
          exact dpAll_app (dpAll_tps tp (noLs_fails _) (dpAll_same sU g4)) (.cons (dp_tps tp rfl (dp_new hU (.cons (.str _) (.cons (.str _) .nil)))) .nil)
      | sat =>
        rw [hs] at he
        simp only [stW, stX] at he
        have e3 : failures [q] = [] := by simp [failures, hs]
        refine ⟨_, rfl, rixT he (atI_nat (j := 0) rfl) ⟨rfl, _, rfl, ifF (by decide +kernel) ⟨_, rfl, rixT he (atI_nat (j := 0) rfl) ⟨rfl, _, rfl, ifT (by decide +kernel) ⟨_, rfl, rixT hdq rfl ⟨rfl, _, rfl, ?_⟩⟩⟩⟩⟩⟩
        cases hpm : q.1.permit with
        | true =>
          have e1 : permits [q] = [q.1.id] := by simp [permits, hs, hpm]
          have e2 : forbids [q] = [] := by simp [forbids, hs, hpm]
          have tp := tps_put (o := HO.lst ((permits (l.take i)).map V.str ++ [.str q.1.id])) g1
          refine ifT (by simp [effW]) ⟨_, rfl, .inl ⟨rfl, _, sqN g1⟩, _, rfl, rixT hdq rfl ⟨L1, _, _, rfl, rfl, g1, lt9 _ (by rw [List.length_map]; exact len1), ⟨_, _, rfl⟩, same_mut hS hL1, ?_, ?_, ys, ?_, ?_⟩⟩
          · rw [upd_same, f1, e1]; simp
          · rw [upd_ne (Ne.symm n12), f2, e2, List.append_nil]; exact g2
          · rw [upd_ne (Ne.symm n13)]; exact g3
          · rw [f3, e3, List.append_nil]; exact dpAll_tps tp (noLs_fails _) g4
        | false =>
          have e1 : permits [q] = [] := by simp [permits, hs, hpm]
          have e2 : forbids [q] = [q.1.id] := by simp [forbids, hs, hpm]
          have tp := tps_put (o := HO.lst ((forbids (l.take i)).map V.str ++ [.str q.1.id])) g2
          refine ifF (by simp [effW]; decide +kernel) ⟨_, rfl, rixT he (atI_nat (j := 0) rfl) ⟨rfl, _, rfl, ifT (by decide +kernel) ⟨_, rfl, .inl ⟨rfl, _, sqN g2⟩, _, rfl, rixT hdq rfl ⟨L2, _, _, rfl, rfl, g2, lt9 _ (by rw [List.length_map]; exact len2), ⟨_, _, rfl⟩, same_mut hS hL2', ?_, ?_, ys, ?_, ?_⟩⟩⟩⟩
          · rw [upd_ne n12, f1, e1, List.append_nil]; exact g1
          · rw [upd_same, f2, e2]; simp
          · rw [upd_ne (Ne.symm n23)]; exact g3
          · rw [f3, e3, List.append_nil]; exact dpAll_tps tp (noLs_fails _) g4
      | off =>
        rw [hs] at he
        simp only [stW, stX] at he
        have e1 : permits [q] = [] := by simp [permits, hs]
        have e2 : forbids [q] = [] := by simp [forbids, hs]
        have e3 : failures [q] = [] := by simp [failures, hs]
        refine ⟨_, rfl, rixT he (atI_nat (j := 0) rfl) ⟨rfl, _, rfl, ifF (by decide +kernel) ⟨_, rfl, rixT he (atI_nat (j := 0) rfl) ⟨rfl, _, rfl, ifF (by decide +kernel) (ifF rfl ⟨_, rfl, rixT he (atI_nat (j := 0) rfl) ⟨rfl, _, rfl, ifF (by decide +kernel) ?_⟩⟩)⟩⟩⟩⟩
        exact ⟨⟨_, _, rfl⟩, hS, by rw [f1, e1, List.append_nil]; exact g1, by rw [f2, e2, List.append_nil]; exact g2, ys, g3, by rw [f3, e3, List.append_nil]; exact g4⟩
      | unsat =>
        rw [hs] at he
        simp only [stW, stX] at he
        have e1 : permits [q] = [] := by simp [permits, hs]
        have e2 : forbids [q] = [] := by simp [forbids, hs]
        have e3 : failures [q] = [] := by simp [failures, hs]
        refine ⟨_, rfl, rixT he (atI_nat (j := 0) rfl) ⟨rfl, _, rfl, ifF (by decide +kernel) ⟨_, rfl, rixT he (atI_nat (j := 0) rfl) ⟨rfl, _, rfl, ifF (by decide +kernel) (ifF rfl ⟨_, rfl, rixT he (atI_nat (j := 0) rfl) ⟨rfl, _, rfl, ifF (by decide +kernel) ?_⟩⟩)⟩⟩⟩⟩
        exact ⟨⟨_, _, rfl⟩, hS, by rw [f1, e1, List.append_nil]; exact g1, by rw [f2, e2, List.append_nil]; exact g2, ys, g3, by rw [f3, e3, List.append_nil]; exact g4⟩
    · rintro σ H1 ⟨⟨o4, o5, rfl⟩, hS, g1, g2, ys, g3, g4⟩
      rw [List.take_of_length_le (by omega)] at g1 g2 g4
      by_cases hf : forbids l = []
      · refine ⟨_, rfl, false, .inl ⟨_, sqN g2, by rw [hf]; rfl⟩, ifF rfl ?_⟩
        refine ⟨_, rfl, _, _, rfl, lenL (sqN g1), _, _, rfl, rfl, ?_⟩
        refine ⟨_, rfl, L1, _, rfl, .inl ⟨sqN g1, fun u1 hu1 => ⟨_, rfl, L3, ys, rfl, .inl ⟨sqN (same_new hu1 _ _ g3), fun u3 hu3 => ⟨by show 3 ≤ sizeLine; decide, fun q hq => ?_⟩⟩⟩⟩⟩
        have t1 := same_new (o := HO.tup ((permits l).map V.str)) hu1
        have t3 := same_new (o := HO.tup ys) hu3
        refine k _ _ (hS.trans (t1.trans (t3.trans (same_new hq)))) ?_
        unfold decisionM
        rw [if_pos hf]
        refine dp_new hq (.cons ?_ (.cons (dp_same t3 (dp_new hu1 (dpAll_ofStrs _))) (.cons (dp_new hu3 (dpAll_same t1 g4)) .nil)))
        have : decide ((0 : Int) < (((permits l).map V.str).length : Nat)) = decide (0 < (permits l).length) := by simp
        show Dp K _ (V.bl (decide ((0 : Int) < (((permits l).map V.str).length : Nat)))) _
        rw [this]
        exact .bl _
      · refine ⟨_, rfl, true, .inl ⟨_, sqN g2, by cases q : forbids l with | nil => exact absurd q hf | cons _ _ => rfl⟩, ifT rfl ?_⟩
        refine ⟨_, rfl, L2, _, rfl, .inl ⟨sqN g2, fun u1 hu1 => ⟨_, rfl, L3, ys, rfl, .inl ⟨sqN (same_new hu1 _ _ g3), fun u3 hu3 => ⟨by show 3 ≤ sizeLine; decide, fun q hq => ?_⟩⟩⟩⟩⟩
        have t1 := same_new (o := HO.tup ((forbids l).map V.str)) hu1
        have t3 := same_new (o := HO.tup ys) hu3
        refine k _ _ (hS.trans (t1.trans (t3.trans (same_new hq)))) ?_
        unfold decisionM
        rw [if_neg hf]
        exact dp_new hq (.cons (.bl _) (.cons (dp_same t3 (dp_new hu1 (dpAll_ofStrs _))) (.cons (dp_new hu3 (dpAll_same t1 g4)) .nil)))
theorem noL_man (m : Man) : noL (encMan m) = true := by simp [encMan, noL, noLs, noL_strs]
theorem noL_ps (q : Pol × St) : noL (encPS q) = true := by simp [encPS, noL, noLs, noL_pol, noL_st]
theorem ok_decide (T : Top w K mg) (h_decision : O_decision P w K mg base) (h_join_reads : O_join_reads P w K mg base) (h_policy_state : O_policy_state P w K mg base) : O_decide P w K mg base := by
  refine mk_ok (f_decide T) sc_decide rfl rfl (fun _ _ _ _ _ _ us hl => match us, hl with | [_, _, _], _ => rfl) (fun vs H Q E h => ?_) (fun f cdv A outer s H vs Q E hr h => ?_)
  · obtain ⟨v, q, a, ps, rq, es, rfl, _⟩ := h
    rfl
  · obtain ⟨v, q, a, ps, rq, es, rfl, hd, hq, hdb, hg, hrg, k⟩ := h
    have sc := sc_decide
    refine ⟨_, (pss_cons (ps_set (i := 3) sc.nd rfl (Or.inl rfl) (pe_lst pa_nil))
      (pss_cons (ps_set (i := 4) sc.nd rfl (Or.inl rfl) (pe_lst pa_nil))
      (pss_cons (ps_for PassesOwn.never rfl (pi_list (pv 0)) (pg_name (i := 5) sc.nd rfl (Or.inl rfl))
      (pss_cons (ps_asg (pe_u h_policy_state hr rfl (g_policy_state T) (pa_cons (pv 5) (pa_cons (pv 1) (pa_cons (pv 2) pa_nil)))) (pg_tup rfl (pgs_cons (pg_name (i := 6) sc.nd rfl (Or.inl rfl)) (pgs_cons (pg_name (i := 7) sc.nd rfl (Or.inl rfl)) pgs_nil))))
        (pss_cons (ps_set (i := 3) sc.nd rfl (Or.inl rfl) (pe_u h_join_reads hr rfl (g_join_reads T) (pa_cons (pv 3) (pa_cons (pv 7) pa_nil))))
        (pss_cons (ps_if (pt_cmpR op_eq (pe_ix ix_seq (pv 6) pe_int (fun _ _ => rfl)) pe_str (nomark _))
        (pss_one (ps_ret (pe_tup (pa_cons pe_non (pa_cons (pv 3) (pa_cons (pe_ix ix_seq (pv 6) pe_int (fun _ _ => rfl)) pa_nil))))))
        pss_nil)
        (pss_one (ps_expr (pe_bm PySem.F.plainAttrs_list PySem.F.slot_list_append PySem.F.type_list_append mt_append (pv 4) (pa_cons (pe_tup (pa_cons (pv 5) (pa_cons (pv 6) pa_nil))) pa_nil))))))))
      (pss_one (ps_ret (pe_tup (pa_cons (pe_u h_decision hr rfl (g_decision T) (pa_cons (pv 4) pa_nil)) (pa_cons (pv 3) (pa_cons pe_non pa_nil))))))))), ?_⟩
    obtain ⟨b, xs, rfl, hb, hx⟩ := dp_lst hd
    have hxl := enc_len hx
    have hpl := hg.len
    refine ⟨Nat.zero_le _, fun L1 hL1 => ⟨Nat.zero_le _, fun L2 hL2 => ?_⟩⟩
    have s1 := same_new (o := HO.lst []) hL1
    have s2 := same_new (o := HO.lst []) hL2
    have hs0 := s1.trans s2
    have hL2' : H L2 = none := by
      cases q' : H L2 with
      | none => rfl
      | some o => rw [s1 _ _ q'] at hL2; cases hL2
    have n12 : L1 ≠ L2 := fun e => by rw [← e, upd_same] at hL2; cases hL2
    let RD : Nat → List Read := fun i => (ps.take i).foldl (fun r p => joinL r (polSt p rq (tell es)).2) []
    have rd1 : ∀ {i : Nat} {p : Pol}, ps[i]? = some p → RD (i + 1) = joinL (RD i) (polSt p rq (tell es)).2 := fun {i p} hp => by
      show (ps.take (i + 1)).foldl _ _ = _
      rw [List.take_add_one, hp, List.foldl_append]
      rfl
    refine ⟨_, rfl, b, rfl, ⟨_, sqL_same hs0 hb⟩, for_it walk_list (fun i σ H1 => (∃ Li o5 o6 o7, σ = [some (.ref b), some q, some (.ref a), some (.ref Li), some (.ref L2), o5, o6, o7] ∧ Dp K H1 (.ref Li) (.list ((RD i).map encRead)) ∧ Li ≠ L2) ∧ Same H H1 ∧ (∀ r ∈ RD i, readOk r = true) ∧ (RD i).length ≤ 40 * i ∧
        ∃ ys, H1 L2 = some (.lst ys) ∧ DpAll K H1 ys (((ps.take i).map fun p => (p, (polSt p rq (tell es)).1)).map encPS))
      ⟨⟨L1, _, _, _, rfl, .lst (sqN (s2 _ _ upd_same)) .nil, n12⟩, hs0, fun r h => (nomatch h), Nat.le_refl _, [], upd_same, .nil⟩ (fun _ _ _ _ h => sqL_same h.2.1 hb) ?_ ?_⟩
    · rintro i z σ H1 H2 hi ⟨⟨Li, o5, o6, o7, rfl, hLi, hne⟩, hS, hro, hrl, ys, hy, hys⟩ ⟨rfl, hz⟩
      obtain ⟨p, hp, hpd⟩ := enc_at hx hz
      have hpg := hg.all p (mem_at hp)
      have hil : i < ps.length := by rw [← hxl]; exact hi
      obtain ⟨po1, po2⟩ := polSt_ok hdb.ok hpg hrg
      refine ⟨_, rfl, _, rfl, _, rfl, z, q, a, p, rq, es, rfl, dp_same hS hpd, dp_same hS hq, db_same hS hdb, hpg, hrg, fun u H3 hS3 hu => ?_⟩
      obtain ⟨c, w1, w2, rfl, hc, k1, k2⟩ := dp2 hu
      refine gp2 hc ⟨_, rfl, _, rfl, .ref Li, w2, (RD i).map encRead, (polSt p rq (tell es)).2.map encRead, rfl, .inl (dp_same hS3 hLi), .inl k2, ⟨all_reads hro, all_reads po1⟩, by rw [List.length_map, List.length_map]; omega, fun D H4 hS4 hD0 hD => ?_⟩
      rw [joinD_map eqv_read, ← rd1 hp] at hD
      obtain ⟨e, rfl, he⟩ := st_hd (dp_same hS4 k1)
      have hS24 := hS3.trans hS4
      have hy4 := hS24 _ _ hy
      refine ⟨_, rfl, rixT he (atI_nat (j := 0) rfl) ⟨rfl, _, rfl, ifF (by simp [stW_needs]) ?_⟩⟩
      refine ⟨_, rfl, .inl ⟨rfl, _, sqN hy4⟩, _, rfl, _, rfl, by show 2 ≤ sizeLine; decide, fun U hU => ?_⟩
      have sU := same_new (o := HO.tup [z, .ref e]) hU
      have hy5 := sU _ _ hy4
      have tp := tps_put (o := HO.lst (ys ++ [.ref U])) hy5
      have hDne : D ≠ L2 := fun e' => by rw [e', hS3 _ _ hy] at hD0; cases hD0
      have hB : But L2 (upd H4 U (.tup [z, .ref e])) (upd (upd H4 U (.tup [z, .ref e])) L2 (.lst (ys ++ [.ref U]))) := (But.refl _ _).put
      refine ⟨L2, ys, _, rfl, rfl, hy5, ?_, ⟨D, _, _, _, rfl, dp_but hB hy5 hDne (noLs_reads _) (dp_same sU hD), hDne⟩, same_mut (hS.trans (hS24.trans sU)) hL2', ?_, ?_, _, upd_same, ?_⟩
      · rw [enc_len hys, List.length_map, List.length_take]
        exact szlt (by omega)
      · rw [rd1 hp]
        exact fun r hr => (mem_joinL.mp hr).elim (hro r) (po1 r)
      · rw [rd1 hp]
        have := joinL_len (polSt p rq (tell es)).2 (RD i)
        omega
      · rw [List.take_add_one, hp, List.map_append, List.map_append]
        refine dpAll_app (dpAll_tps tp (noLs_map noL_ps _) (dpAll_same (hS24.trans sU) hys)) (.cons (dp_tps tp (noL_ps _) ?_) .nil)
        exact dp_new hU (.cons (dp_same (hS.trans hS24) hpd) (.cons (dp_same hS4 k1) .nil))
    · rintro σ H1 ⟨⟨Li, o5, o6, o7, rfl, hLi, hne⟩, hS, hro, hrl, ys, hy, hys⟩
      rw [List.take_of_length_le (by omega)] at hys
      have hRD : RD xs.length = (decideM ps rq (tell es)).2 := by
        show (ps.take xs.length).foldl _ _ = _
        rw [List.take_of_length_le (by omega)]
        rfl
      rw [hRD] at hLi
      refine ⟨_, rfl, .ref L2, _, rfl, .lst (sqN hy) hys, by rw [List.length_map]; omega, fun u H2 hS2 hu => ⟨_, rfl, by show 3 ≤ sizeLine; decide, fun q0 hq0 => k _ _ ((hS.trans hS2).trans (same_new hq0)) ?_⟩⟩
      exact dp_new hq0 (.cons hu (.cons (dp_same hS2 hLi) (.cons .non .nil)))
theorem ok_join_manifests (T : Top w K mg) (h_join_reads : O_join_reads P w K mg base) : O_join_manifests P w K mg base := by
  refine mk_ok (f_join_manifests T) sc_join_manifests rfl rfl (fun _ _ _ _ _ _ us hl => match us, hl with | [_], _ => rfl) (fun vs H Q E h => ?_) (fun f cdv A outer s H vs Q E hr h => ?_)
  · obtain ⟨v, l, n, rfl, _⟩ := h
    rfl
  · obtain ⟨v, l, n, rfl, hd, hB, hn, k⟩ := h
    have sc := sc_join_manifests
    refine ⟨_, (pss_cons (ps_set (i := 1) sc.nd rfl (Or.inl rfl) (pe_lst pa_nil))
      (pss_cons (ps_set (i := 2) sc.nd rfl (Or.inl rfl) (pe_lst pa_nil))
      (pss_cons (ps_for PassesOwn.never rfl (pi_list (pv 0)) (pg_name (i := 3) sc.nd rfl (Or.inl rfl))
      (pss_cons (ps_set (i := 1) sc.nd rfl (Or.inl rfl) (pe_u h_join_reads hr rfl (g_join_reads T) (pa_cons (pv 1) (pa_cons (pe_ix ix_seq (pv 3) pe_int (fun _ _ => rfl)) pa_nil))))
        (pss_one (ps_set (i := 2) sc.nd rfl (Or.inl rfl) (pe_u h_join_reads hr rfl (g_join_reads T) (pa_cons (pv 2) (pa_cons (pe_ix ix_seq (pv 3) pe_int (fun _ _ => rfl)) pa_nil)))))))
      (pss_one (ps_ret (pe_tup (pa_cons (pe_callTy call_tuple_of (by rfl) (n_tuple T) (by decide +kernel) (pa_cons (pv 1) pa_nil)) (pa_cons (pe_callTy call_tuple_of (by rfl) (n_tuple T) (by decide +kernel) (pa_cons (pv 2) pa_nil)) pa_nil)))))))), ?_⟩
    obtain ⟨b, xs, rfl, hb, hx⟩ := dp_lst hd
    have hxl := enc_len hx
    let M : Nat → Man := fun i => (l.take i).foldl (fun m t => (joinL m.1 t.1, joinL m.2 t.2)) ([], [])
    have hMs : ∀ {i : Nat} {t : Man}, l[i]? = some t → M (i + 1) = (joinL (M i).1 t.1, joinL (M i).2 t.2) := fun {i t} ht => by
      show (l.take (i + 1)).foldl _ _ = _
      rw [List.take_add_one, ht, List.foldl_append]
      rfl
    have hMB : ∀ i, ManB (M i) (n * l.length) := fun i => by
      have h := foldJ_man (l.take i) ([], []) 0 n (fun t ht => hB t (List.mem_of_mem_take ht)) (man_nil 0)
      refine h.mono ?_
      rw [Nat.zero_add, List.length_take]
      exact Nat.mul_le_mul_left _ (Nat.min_le_right _ _)
    refine ⟨Nat.zero_le _, fun L1 hL1 => ⟨Nat.zero_le _, fun L2 hL2 => ?_⟩⟩
    have s1 := same_new (o := HO.lst []) hL1
    have s2 := same_new (o := HO.lst []) hL2
    refine ⟨_, rfl, b, rfl, ⟨_, sqL_same (s1.trans s2) hb⟩, for_it walk_list (fun i σ H1 => (∃ d1 d2 o, σ = [some (.ref b), some (.ref d1), some (.ref d2), o] ∧ Dp K H1 (.ref d1) (.list ((M i).1.map PyData.str)) ∧ Dp K H1 (.ref d2) (.list ((M i).2.map PyData.str))) ∧ Same H H1)
      ⟨⟨L1, L2, _, rfl, .lst (sqN (s2 _ _ upd_same)) .nil, .lst (sqN upd_same) .nil⟩, s1.trans s2⟩ (fun _ _ _ _ h => sqL_same h.2 hb) ?_ ?_⟩
    · rintro i z σ H1 H2 hi ⟨⟨d1, d2, o, rfl, hd1, hd2⟩, hS⟩ ⟨rfl, hz⟩
      obtain ⟨t, ht, htd⟩ := enc_at hx hz
      obtain ⟨c, w1, w2, rfl, hc, k1, k2⟩ := dp2 (dp_same hS htd)
      have tB := hB t (mem_at ht)
      have mB := hMB i
      have tba := tB.a
      have tbb := tB.b
      have mba := mB.a
      have mbb := mB.b
      refine ⟨_, rfl, _, rfl, rixT hc rfl ⟨_, _, (M i).1.map PyData.str, t.1.map PyData.str, rfl, .inl hd1, .inr k1, ⟨all_txt mB.pa, all_txt tB.pa⟩, by rw [List.length_map, List.length_map]; omega, fun D1 H3 hS3 _ hD1 => ?_⟩⟩
      rw [joinD_map eqv_str] at hD1
      refine ⟨_, rfl, _, rfl, rixT (sqT_same hS3 hc) rfl ⟨_, _, (M i).2.map PyData.str, t.2.map PyData.str, rfl, .inl (dp_same hS3 hd2), .inr (dp_same hS3 k2), ⟨all_txt mB.pb, all_txt tB.pb⟩, by rw [List.length_map, List.length_map]; omega, fun D2 H4 hS4 _ hD2 => ?_⟩⟩
      rw [joinD_map eqv_str] at hD2
      refine ⟨⟨D1, D2, _, rfl, ?_, ?_⟩, hS.trans (hS3.trans hS4)⟩
      · rw [hMs ht]; exact dp_same hS4 hD1
      · rw [hMs ht]; exact hD2
    · rintro σ H2 ⟨⟨d1, d2, o, rfl, hd1, hd2⟩, hS⟩
      have hM : M xs.length = joinMan l := by
        show (l.take xs.length).foldl _ _ = _
        rw [List.take_of_length_le (by omega)]
        rfl
      rw [hM] at hd1 hd2
      obtain ⟨d1', y1, e1, hl1, hy1⟩ := dp_lst hd1
      cases e1
      obtain rfl := dpAll_strs hy1
      obtain ⟨d2', y2, e2, hl2, hy2⟩ := dp_lst hd2
      cases e2
      obtain rfl := dpAll_strs hy2
      refine ⟨_, rfl, d1, _, rfl, .inl ⟨hl1, fun u hu => ⟨_, rfl, d2, _, rfl, .inl ⟨sqL_same (same_new hu) hl2, fun u2 hu2 => ⟨by show 2 ≤ sizeLine; decide, fun q hq => ?_⟩⟩⟩⟩⟩
      have t2 := same_new (o := HO.tup ((joinMan l).2.map V.str)) hu2
      exact k _ _ (hS.trans ((same_new hu).trans (t2.trans (same_new hq)))) (dp_new hq (.cons (dp_same t2 (dp_new hu (dpAll_ofStrs _))) (.cons (dp_new hu2 (dpAll_ofStrs _)) .nil)))
theorem scope_hd {H : Hp} {v : V} {s : Scope} (h : Dp K H v (encScope s)) : ∃ a xs wd, v = .ref a ∧ SqT K H a xs ∧ atI xs 0 = some (.str wd) ∧ decide (V.str wd = V.str "in") = isIn s := by
  cases s with
  | any => obtain ⟨a, x, rfl, hq, h1⟩ := dp1 h; obtain rfl := dpS h1; exact ⟨a, _, _, rfl, hq, atI_nat (j := 0) rfl, by decide +kernel⟩
  | is_ u => obtain ⟨a, x, y, rfl, hq, h1, h2⟩ := dp2 h; obtain rfl := dpS h1; exact ⟨a, _, _, rfl, hq, atI_nat (j := 0) rfl, by simp only [isIn]; decide +kernel⟩
  | in_ u => obtain ⟨a, x, y, rfl, hq, h1, h2⟩ := dp2 h; obtain rfl := dpS h1; exact ⟨a, _, _, rfl, hq, atI_nat (j := 0) rfl, by simp only [isIn]; decide +kernel⟩
  | kind u => obtain ⟨a, x, y, rfl, hq, h1, h2⟩ := dp2 h; obtain rfl := dpS h1; exact ⟨a, _, _, rfl, hq, atI_nat (j := 0) rfl, by simp only [isIn]; decide +kernel⟩
theorem ok_policy_manifest (T : Top w K mg) (h_expression_manifest : O_expression_manifest P w K mg base) (h_join_manifests : O_join_manifests P w K mg base) : O_policy_manifest P w K mg base := by
  refine mk_ok (f_policy_manifest T) sc_policy_manifest rfl rfl (fun _ _ _ _ _ _ us hl => match us, hl with | [_], _ => rfl) (fun vs H Q E h => ?_) (fun f cdv A outer s H vs Q E hr h => ?_)
  · obtain ⟨v, p, rfl, _⟩ := h
    rfl
  · obtain ⟨v, p, rfl, hd, hg, k⟩ := h
    have sc := sc_policy_manifest
    refine ⟨_, (pss_cons (ps_set (i := 1) sc.nd rfl (Or.inl rfl) (pe_lst pa_nil))
      (pss_cons (ps_if (pt_cmpR op_eq (pe_ix ix_seq (pe_ix ix_seq (pv 0) pe_int (fun _ _ => rfl)) pe_int (fun _ _ => rfl)) pe_str (nomark _))
      (pss_one (ps_expr (pe_bm PySem.F.plainAttrs_list PySem.F.slot_list_append PySem.F.type_list_append mt_append (pv 1) (pa_cons pe_str pa_nil))))
      pss_nil)
      (pss_cons (ps_if (pt_cmpR op_eq (pe_ix ix_seq (pe_ix ix_seq (pv 0) pe_int (fun _ _ => rfl)) pe_int (fun _ _ => rfl)) pe_str (nomark _))
      (pss_one (ps_expr (pe_bm PySem.F.plainAttrs_list PySem.F.slot_list_append PySem.F.type_list_append mt_append (pv 1) (pa_cons pe_str pa_nil))))
      pss_nil)
      (pss_one (ps_ret (pe_u h_join_manifests hr rfl (g_join_manifests T) (pa_cons (pe_lst (pa_cons (pe_tup (pa_cons (pe_tup pa_nil) (pa_cons (pe_callTy call_tuple_of (by rfl) (n_tuple T) (by decide +kernel) (pa_cons (pv 1) pa_nil)) pa_nil))) (pa_cons (pe_u h_expression_manifest hr rfl (g_expression_manifest T) (pa_cons (pe_ix ix_seq (pv 0) pe_int (fun _ _ => rfl)) pa_nil)) pa_nil))) pa_nil))))))), ?_⟩
    obtain ⟨b, x1, x2, x3, x4, x5, x6, rfl, hb, h1, h2, h3, h4, h5, h6⟩ := dp6 hd
    obtain ⟨c3, y3, w3, rfl, hc3, ha3, hw3⟩ := scope_hd h3
    obtain ⟨c5, y5, w5, rfl, hc5, ha5, hw5⟩ := scope_hd h5
    have hlen := hg.len
    refine ⟨Nat.zero_le _, fun L hL => ?_⟩
    have tail : ∀ H1, Same H H1 → H1 L = some (.lst ((scopesOf p).map V.str)) → tRet (tCall (sp_join_manifests K) [] E0 (tCons (tLst (tCons (tTup (tCons (tTup tNil) (tCons (tCB (fun xs H Q => ∃ p ys, xs = [.ref p] ∧ ((SqL K H p ys ∧ ∀ l, H l = none → Q (.ref l) (upd H l (.tup ys))) ∨ (SqT K H p ys ∧ Q (.ref p) H))) (tCons (tVar 1) tNil)) tNil))) (tCons (tCall (sp_expression_manifest K) [] E0 (tCons (tOp (rIx K) (tVar 0) (tC (.int 5))) tNil)) tNil))) tNil)) { nx := fun _ H' => Q .non H', rt := Q } [some (.ref b), some (.ref L)] H1 := by
      intro H1 hS hL1
      refine ⟨Nat.zero_le _, fun e0 he0 => ⟨_, rfl, L, _, rfl, .inl ⟨sqN (same_new he0 _ _ hL1), fun u hu => ⟨by show 2 ≤ sizeLine; decide, fun m0 hm0 => ?_⟩⟩⟩⟩
      have t0 := same_new (o := HO.tup []) he0
      have t1 := same_new (o := HO.tup ((scopesOf p).map V.str)) hu
      have t2 := same_new (o := HO.tup [V.ref e0, .ref u]) hm0
      have hS3 := hS.trans (t0.trans (t1.trans t2))
      have hm0d := dp_new (K := K) (ds := [encStrs [], encStrs (scopesOf p)]) hm0 (.cons (dp_same t1 (dp_new he0 .nil)) (.cons (dp_new hu (dpAll_ofStrs _)) .nil))
      refine ⟨_, rfl, rixT (sqT_same hS3 hb) rfl ⟨x6, p.cond, rfl, dp_same hS3 h6, hg.ok, by omega, fun v H2 hS2 hv => ⟨by show 2 ≤ sizeLine; decide, fun L2 hL2 => ?_⟩⟩⟩
      have t4 := same_new (o := HO.lst [V.ref m0, v]) hL2
      refine ⟨.ref L2, [([], scopesOf p), exprMan p.cond], 3000, rfl, dp_newL hL2 (.cons (dp_same hS2 hm0d) (.cons hv .nil)), fun m hm => ?_, by show 3000 * 2 + 3000 ≤ 10000000; decide, fun u' H4 hS4 hu' => k u' H4 (hS3.trans (hS2.trans (t4.trans hS4))) hu'⟩
      rcases List.mem_cons.mp hm with rfl | hm
      · exact scopes_b p
      · rw [List.mem_singleton.mp hm]; exact exprMan_b30 hg.ok hg.len
    have sL := same_new (o := HO.lst []) hL
    have hsz : ∀ n : Nat, n ≤ 1 → n < sizeLine := fun n hn => szlt (by omega)
    refine ⟨_, rfl, rixT (sqT_same sL hb) rfl (rixT (sqT_same sL hc3) ha3 ⟨rfl, _, rfl, ?_⟩)⟩
    rw [hw3]
    cases i3 : isIn p.pr with
    | true =>
      have e3 : Same H (upd (upd H L (.lst [])) L (.lst ([] ++ [V.str "principal"]))) := same_mut sL hL
      refine ifT rfl ⟨_, rfl, .inl ⟨rfl, _, sqN upd_same⟩, L, _, _, rfl, rfl, upd_same, hsz _ (Nat.zero_le _), ?_⟩
      refine ⟨_, rfl, rixT (sqT_same e3 hb) rfl (rixT (sqT_same e3 hc5) ha5 ⟨rfl, _, rfl, ?_⟩)⟩
      rw [hw5]
      cases i5 : isIn p.rs with
      | true => exact ifT rfl ⟨_, rfl, .inl ⟨rfl, _, sqN upd_same⟩, L, _, _, rfl, rfl, upd_same, hsz _ (Nat.le_refl _), tail _ (same_mut e3 hL) (by rw [upd_same]; simp [scopesOf, i3, i5])⟩
      | false => exact ifF rfl (tail _ e3 (by rw [upd_same]; simp [scopesOf, i3, i5]))
    | false =>
      refine ifF rfl ⟨_, rfl, rixT (sqT_same sL hb) rfl (rixT (sqT_same sL hc5) ha5 ⟨rfl, _, rfl, ?_⟩)⟩
      rw [hw5]
      cases i5 : isIn p.rs with
      | true => exact ifT rfl ⟨_, rfl, .inl ⟨rfl, _, sqN upd_same⟩, L, _, _, rfl, rfl, upd_same, hsz _ (Nat.zero_le _), tail _ (same_mut sL hL) (by rw [upd_same]; simp [scopesOf, i3, i5])⟩
      | false => exact ifF rfl (tail _ sL (by rw [upd_same]; simp [scopesOf, i3, i5]))
theorem ok_manifest (T : Top w K mg) (h_can_apply : O_can_apply P w K mg base) (h_join_manifests : O_join_manifests P w K mg base) (h_policy_manifest : O_policy_manifest P w K mg base) : O_manifest P w K mg base := by
  refine mk_ok (f_manifest T) sc_manifest rfl rfl (fun _ _ _ _ _ _ us hl => match us, hl with | [_, _], _ => rfl) (fun vs H Q E h => ?_) (fun f cdv A outer s H vs Q E hr h => ?_)
  · obtain ⟨v, c, ps, kd, rfl, _⟩ := h
    rfl
  · obtain ⟨v, c, ps, kd, rfl, hd, hc, hg, k⟩ := h
    have sc := sc_manifest
    refine ⟨_, (pss_one (ps_ret (pe_u h_join_manifests hr rfl (g_join_manifests T) (pa_cons (pe_lc (own := [("policy", 2)]) rfl sc.nd (pi_list (pv 0)) (blkOk_by (own := [("policy", 2)]) (N := N_manifest) (sc := defScope s_manifest) (by decide +kernel)) (fun _ _ _ _ _ => (pg_name (i := 2) sc.nd rfl (Or.inl rfl))) (fun _ _ _ _ _ => (pts_one (pt_val (pe_u h_can_apply hr rfl (g_can_apply T) (pa_cons (pv 2) (pa_cons (pv 1) pa_nil)))))) (fun _ _ _ _ _ => (pe_u h_policy_manifest hr rfl (g_policy_manifest T) (pa_cons (pv 2) pa_nil)))) pa_nil)))), ?_⟩
    obtain ⟨b, xs, rfl, hb, hx⟩ := dp_lst hd
    have hxl := enc_len hx
    have hpl := hg.len
    refine ⟨_, rfl, b, rfl, ⟨_, hb⟩, fun D hD => lc_it walk_list (fun i H2 => Same H H2 ∧ ∃ ys, H2 D = some (.lst ys) ∧ DpAll K H2 ys ((((ps.take i).filter fun p => canApply p kd).map polMan).map encMan)) ⟨same_new hD, [], upd_same, .nil⟩ (fun _ _ _ h => sqL_same h.1 hb) ?_ ?_⟩
    · rintro i z H2 H3 hi ⟨hS2, ys, hy, hys⟩ ⟨rfl, hz⟩
      obtain ⟨p, hp, hpd⟩ := enc_at hx hz
      have hpg := hg.all p (mem_at hp)
      have hil : i < ps.length := by rw [← hxl]; exact hi
      have hst : (ps.take (i + 1)).filter (fun p => canApply p kd) = (ps.take i).filter (fun p => canApply p kd) ++ (if canApply p kd = true then [p] else []) := by
        rw [List.take_add_one, hp, List.filter_append]
        simp [List.filter_cons]
      refine ⟨rfl, _, rfl, _, rfl, z, c, p, kd, rfl, dp_same hS2 hpd, dp_same hS2 hc, hpg, fun H4 hS4 => ⟨_, rfl, ?_⟩⟩
      have hS24 := hS2.trans hS4
      refine ifB (fun hca => ?_) (fun hca => ?_)
      · refine ⟨_, rfl, z, p, rfl, dp_same hS24 hpd, hpg, fun u H5 hS5 hu => ?_⟩
        have hS25 := hS24.trans hS5
        have hy5 := (hS4.trans hS5) _ _ hy
        have tp := tps_put (o := HO.lst (ys ++ [u])) hy5
        refine ⟨ys, hy5, ?_, same_mut hS25 hD, _, upd_same, ?_⟩
        · rw [enc_len hys, List.length_map]
          refine Nat.lt_of_le_of_lt (List.length_filter_le _ _) ?_
          rw [List.length_take]
          exact szlt (by omega)
        · rw [hst, if_pos hca, List.map_append, List.map_append]
          exact dpAll_app (dpAll_tps tp (noLs_map noL_man _) (dpAll_same (hS4.trans hS5) hys)) (.cons (dp_tps tp (noL_man _) hu) .nil)
      · refine ⟨hS24, ys, hS4 _ _ hy, ?_⟩
        rw [hst, if_neg (by simpa using hca), List.append_nil]
        exact dpAll_same hS4 hys
    · rintro H2 ⟨hS2, ys, hy, hys⟩
      rw [List.take_of_length_le (by omega)] at hys
      refine ⟨.ref D, _, 6000, rfl, .lst (sqN hy) hys, fun m hm => ?_, ?_, fun u H3 hS3 hu => k u H3 (hS2.trans hS3) hu⟩
      · obtain ⟨p, hp, rfl⟩ := List.mem_map.mp hm
        have := hg.all p (List.mem_filter.mp hp).1
        exact polMan_b this.ok this.len
      · rw [List.length_map]
        have := List.length_filter_le (fun p => canApply p kd) ps
        omega
end
end FF
set_option Elab.async false
set_option linter.all false
set_option maxRecDepth 100000
set_option maxHeartbeats 4000000
/-! what deciding gives is short enough to be shown -/
namespace FF
open PySem PySem.Spec PyProof.Rows L2
/-- a datum that can be shown: n deep, of the weight w -/
structure Sm (d : PyData) (n w : Nat) : Prop where
  dep : d.depth ≤ n
  wt : d.weight ≤ w
  lay : d.canLay0 = true
  shw : d.showable = true
  isb : d.intsShort 13 = true
  nod : d.hasDict = false
theorem Sm.mono {d : PyData} {n w n' w' : Nat} (h : Sm d n w) (h1 : n ≤ n') (h2 : w ≤ w') : Sm d n' w' := ⟨Nat.le_trans h.dep h1, Nat.le_trans h.wt h2, h.lay, h.shw, h.isb, h.nod⟩
theorem sm_str {s : Str} {k : Nat} (h : PyData.strOk s = true) (hl : s.length ≤ k) : Sm (.str s) 0 k := ⟨Nat.le_refl _, hl, h, rfl, rfl, rfl⟩
theorem sm_bool (b : Bool) : Sm (.bool b) 0 0 := ⟨Nat.le_refl _, Nat.le_refl _, rfl, rfl, rfl, rfl⟩
theorem sm_none : Sm .none 0 0 := ⟨Nat.le_refl _, Nat.le_refl _, rfl, rfl, rfl, rfl⟩
theorem sm_all {n w : Nat} : ∀ {ds : List PyData}, (∀ d ∈ ds, Sm d n w) → PyData.depthAll ds ≤ n ∧ PyData.weightAll ds ≤ ds.length * (w + 1) ∧ PyData.canLayAll0 ds = true ∧ PyData.showableAll ds = true ∧ PyData.intsShortAll 13 ds = true ∧ PyData.hasDictAll ds = false
  | [], _ => ⟨Nat.zero_le _, Nat.zero_le _, rfl, rfl, rfl, rfl⟩
  | d :: ds, h => by
    obtain ⟨a1, a2, a3, a4, a5, a6⟩ := sm_all fun x hx => h x (List.mem_cons_of_mem _ hx)
    obtain ⟨b1, b2, b3, b4, b5, b6⟩ := h d (List.mem_cons_self ..)
    refine ⟨?_, ?_, ?_, ?_, ?_, ?_⟩
    · show max d.depth (PyData.depthAll ds) ≤ n
      omega
    · show d.weight + 1 + PyData.weightAll ds ≤ (ds.length + 1) * (w + 1)
      rw [Nat.add_mul, Nat.one_mul]
      omega
    · show (d.canLay0 && PyData.canLayAll0 ds) = true
      rw [a3, b3]; rfl
    · show (d.showable && PyData.showableAll ds) = true
      rw [a4, b4]; rfl
    · show (d.intsShort 13 && PyData.intsShortAll 13 ds) = true
      rw [a5, b5]; rfl
    · show (d.hasDict || PyData.hasDictAll ds) = false
      rw [a6, b6]; rfl
theorem sm_tuple {ds : List PyData} {n w : Nat} (h : ∀ d ∈ ds, Sm d n w) : Sm (.tuple ds) (n + 1) (ds.length * (w + 1)) := by
  obtain ⟨a1, a2, a3, a4, a5, a6⟩ := sm_all h
  exact ⟨by simp only [PyData.depth]; omega, a2, a3, a4, a5, a6⟩
theorem sm_list {ds : List PyData} {n w : Nat} (h : ∀ d ∈ ds, Sm d n w) : Sm (.list ds) (n + 1) (ds.length * (w + 1)) := by
  obtain ⟨a1, a2, a3, a4, a5, a6⟩ := sm_all h
  exact ⟨by simp only [PyData.depth]; omega, a2, a3, a4, a5, a6⟩
theorem sm_map {α : Type} {f : α → PyData} {l : List α} {n w : Nat} (h : ∀ x ∈ l, Sm (f x) n w) : ∀ d ∈ l.map f, Sm d n w := fun d hd => by
  obtain ⟨x, hx, rfl⟩ := List.mem_map.mp hd
  exact h x hx
theorem Sm.fits {d : PyData} {n w : Nat} (h : Sm d n w) (hw : w ≤ 1048576) : d.shown.length ≤ sizeLine :=
  PyData.shown_fits (B := 13) (by decide) (by decide) (PyData.leavesShort_of_canLay0 13 d h.lay h.isb) (Nat.le_trans h.wt (Nat.le_trans hw (by decide)))
theorem sm_read {r : Read} (h : readOk r = true) : Sm (encRead r) 1 100 := by
  cases r with
  | attr u n =>
    simp only [readOk, Bool.and_eq_true, decide_eq_true_eq] at h
    have t1 : PyData.strOk ("attribute" : Str) = true ∧ Str.length ("attribute" : Str) ≤ 30 := by decide +kernel
    refine (sm_tuple (n := 0) (w := 30) fun d hd => ?_).mono (Nat.le_refl _) (Nat.le_of_ble_eq_true rfl)
    simp at hd
    rcases hd with rfl | rfl | rfl
    · exact sm_str t1.1 t1.2
    · exact sm_str h.1.1 h.2.1
    · exact sm_str h.1.2 h.2.2
  | anc u =>
    simp only [readOk, Bool.and_eq_true, decide_eq_true_eq] at h
    have t1 : PyData.strOk ("ancestors" : Str) = true ∧ Str.length ("ancestors" : Str) ≤ 30 := by decide +kernel
    refine (sm_tuple (n := 0) (w := 30) fun d hd => ?_).mono (Nat.le_refl _) (Nat.le_of_ble_eq_true rfl)
    simp at hd
    rcases hd with rfl | rfl
    · exact sm_str t1.1 t1.2
    · exact sm_str h.1 h.2
def StOk : St → Prop
  | .fails w => PyData.strOk w = true ∧ w.length ≤ 30
  | _ => True
theorem condSt_ok {o : Out} (h : OutOk o) : StOk (condSt o) := by
  unfold condSt
  split
  · trivial
  · trivial
  · show PyData.strOk ("wrong kind" : Str) = true ∧ Str.length ("wrong kind" : Str) ≤ 30; decide +kernel
  · exact h
theorem polSt_st {es : List Ent} {p : Pol} {rq : Req} (hok : DbOk es) (hg : PolG p) (hr : ReqGood rq) : StOk (polSt p rq (tell es)).1 := by
  obtain ⟨c0, _, _⟩ := eval_ok hok hg.ok hg.vals hr
  cases ha : actOk p rq.a with
  | false => rw [polSt_0 ha]; trivial
  | true =>
    cases h1 : (inScope p.pr rq.p (tell es)).1 with
    | false => rw [polSt_1 ha h1]; trivial
    | true =>
      cases h2 : (inScope p.rs rq.r (tell es)).1 with
      | false => rw [polSt_2 ha h1 h2]; trivial
      | true => rw [polSt_3 ha h1 h2]; exact condSt_ok c0
theorem sm_dec {l : List (Pol × St)} (hl : l.length ≤ 10) (h : ∀ q ∈ l, (PyData.strOk q.1.id = true ∧ q.1.id.length ≤ 30) ∧ StOk q.2) : Sm (encDec (decisionM l)) 3 10000 := by
  have ids : ∀ s : List Str, s.length ≤ 10 → (∀ x ∈ s, PyData.strOk x = true ∧ x.length ≤ 30) → Sm (encStrs s) 2 1000 := by
    intro s hs hx
    refine (sm_tuple (sm_map fun x hx' => sm_str (hx x hx').1 (hx x hx').2)).mono (by decide) ?_
    rw [List.length_map]
    have : s.length * 31 ≤ 10 * 31 := Nat.mul_le_mul_right _ hs
    omega
  have fl : Sm (.tuple ((failures l).map fun q => .tuple [.str q.1, .str q.2])) 2 1000 := by
    refine (sm_tuple (n := 1) (w := 62) (sm_map fun x hx => ?_)).mono (by decide) ?_
    · obtain ⟨q, hq, e⟩ := List.mem_filterMap.mp hx
      have hq' := h q hq
      split at e
      · rename_i w hw
        cases e
        rw [hw] at hq'
        refine (sm_tuple (n := 0) (w := 30) fun d hd => ?_).mono (Nat.le_of_ble_eq_true rfl) (Nat.le_of_ble_eq_true rfl)
        simp at hd
        rcases hd with rfl | rfl
        · exact sm_str hq'.1.1 hq'.1.2
        · exact sm_str hq'.2.1 hq'.2.2
      · cases e
    · rw [List.length_map]
      have h1 : (failures l).length ≤ l.length := List.length_filterMap_le ..
      have : (failures l).length * 63 ≤ 10 * 63 := Nat.mul_le_mul_right _ (by omega)
      omega
  have pm : Sm (encStrs (permits l)) 2 1000 := ids _ (Nat.le_trans (List.length_filterMap_le ..) hl) fun x hx => by
    obtain ⟨q, hq, e⟩ := List.mem_filterMap.mp hx
    have hq' := h q hq
    split at e
    · split at e
      · cases e; exact hq'.1
      · cases e
    · cases e
  have fb : Sm (encStrs (forbids l)) 2 1000 := ids _ (Nat.le_trans (List.length_filterMap_le ..) hl) fun x hx => by
    obtain ⟨q, hq, e⟩ := List.mem_filterMap.mp hx
    have hq' := h q hq
    split at e
    · split at e
      · cases e
      · cases e; exact hq'.1
    · cases e
  have fin : ∀ (b : Bool) (d : PyData), Sm d 2 1000 → Sm (.tuple [.bool b, d, .tuple ((failures l).map fun q => .tuple [.str q.1, .str q.2])]) 3 10000 := by
    intro b d hd
    refine (sm_tuple (n := 2) (w := 1000) fun x hx => ?_).mono (Nat.le_of_ble_eq_true rfl) (Nat.le_of_ble_eq_true rfl)
    simp at hx
    rcases hx with rfl | rfl | rfl
    · exact (sm_bool b).mono (by decide) (by decide)
    · exact hd
    · exact fl
  unfold decisionM
  split
  · exact fin _ _ pm
  · exact fin _ _ fb
theorem decide_reads {es : List Ent} {rq : Req} (hok : DbOk es) (hr : ReqGood rq) : ∀ (ps : List Pol) (r0 : List Read), (∀ p ∈ ps, PolG p) → (∀ r ∈ r0, readOk r = true) →
    (∀ r ∈ ps.foldl (fun r p => joinL r (polSt p rq (tell es)).2) r0, readOk r = true) ∧ (ps.foldl (fun r p => joinL r (polSt p rq (tell es)).2) r0).length ≤ r0.length + 40 * ps.length
  | [], r0, _, h => ⟨h, Nat.le_refl _⟩
  | p :: ps, r0, hp, h => by
    obtain ⟨a1, a2⟩ := polSt_ok hok (hp p (List.mem_cons_self ..)) hr
    have hj := joinL_len (polSt p rq (tell es)).2 r0
    obtain ⟨b1, b2⟩ := decide_reads hok hr ps (joinL r0 (polSt p rq (tell es)).2) (fun x hx => hp x (List.mem_cons_of_mem _ hx)) fun r hr' => (mem_joinL.mp hr').elim (h r) (a1 r)
    refine ⟨b1, ?_⟩
    rw [List.foldl_cons, List.length_cons]
    omega
theorem sm_decide {es : List Ent} {rq : Req} {ps : List Pol} (hok : DbOk es) (hr : ReqGood rq) (hp : PolsG ps) :
    Sm (encDec (decideM ps rq (tell es)).1) 3 10000 ∧ Sm (.tuple [encDec (decideM ps rq (tell es)).1, encReads (decideM ps rq (tell es)).2, .none]) 4 200000 := by
  have h1 : Sm (encDec (decideM ps rq (tell es)).1) 3 10000 := by
    refine sm_dec (by rw [List.length_map]; exact hp.len) fun q hq => ?_
    obtain ⟨p, hpm, rfl⟩ := List.mem_map.mp hq
    exact ⟨(hp.all p hpm).id, polSt_st hok (hp.all p hpm) hr⟩
  obtain ⟨b1, b2⟩ := decide_reads hok hr ps [] hp.all (fun r h => by cases h)
  have h2 : Sm (encReads (decideM ps rq (tell es)).2) 2 41000 := by
    refine (sm_list (sm_map fun x hx => sm_read (b1 x hx))).mono (by decide) ?_
    rw [List.length_map]
    have hl := hp.len
    rw [List.length_nil] at b2
    have : (decideM ps rq (tell es)).2.length * 101 ≤ 400 * 101 := Nat.mul_le_mul_right _ (Nat.le_trans (show (decideM ps rq (tell es)).2.length ≤ 0 + 40 * ps.length from b2) (by omega))
    omega
  refine ⟨h1, (sm_tuple (n := 3) (w := 41000) fun d hd => ?_).mono (Nat.le_of_ble_eq_true rfl) (by simp only [List.length_cons, List.length_nil]; omega)⟩
  simp at hd
  rcases hd with rfl | rfl | rfl
  · exact h1.mono (by decide) (by decide)
  · exact h2.mono (by decide) (by decide)
  · exact sm_none.mono (by decide) (by decide)
end FF
set_option Elab.async false
set_option linter.all false
set_option maxRecDepth 100000
set_option maxHeartbeats 4000000
/-! what the law's own defs promise: the box changes alone, what is drawn is good -/
namespace FF
open PySem PySem.Spec PyProof.Rows L2
/-- the box: where it stands, its digits -/
structure Bx where
  bx : Addr
  dl : Addr
  ds : List Int
structure BoxAt (H : Hp) (b : Bx) : Prop where
  at_ : ∃ n : Nat, H b.bx = some (.lst [.ref b.dl, .int (n : Int)])
  dig : H b.dl = some (.lst (b.ds.map V.int))
/-- a turn of drawing -/
structure Drawn (b : Bx) (H H' : Hp) : Prop where
  but : But b.bx H H'
  box : BoxAt H' b
section
variable {H H' H1 H2 : Hp} {b : Bx} {a : Addr}
theorem BoxAt.lst (h : BoxAt H b) : ∃ ys, H b.bx = some (.lst ys) := by
  obtain ⟨n, h1⟩ := h.at_
  exact ⟨_, h1⟩
theorem BoxAt.same (h : BoxAt H b) (e : Same H H') : BoxAt H' b := by
  obtain ⟨⟨n, h1⟩, h2⟩ := h
  exact ⟨⟨n, e _ _ h1⟩, e _ _ h2⟩
theorem BoxAt.dl_ne (h : BoxAt H b) : b.dl ≠ b.bx := by
  obtain ⟨⟨n, h1⟩, h2⟩ := h
  intro e
  rw [e, h1] at h2
  cases q : b.ds with
  | nil => rw [q] at h2; cases h2
  | cons d ds => rw [q] at h2; cases h2
theorem BoxAt.ne (h : BoxAt H b) (ha : H a = none) : a ≠ b.bx := by
  obtain ⟨ys, hy⟩ := h.lst
  rintro rfl
  rw [hy] at ha
  cases ha
theorem BoxAt.ne2 (h : BoxAt H b) (ha : H a = none) : a ≠ b.dl := by
  rintro rfl
  rw [h.dig] at ha
  cases ha
theorem Drawn.of (h : BoxAt H b) (e : Same H H') : Drawn b H H' := ⟨But.of e, h.same e⟩
theorem Drawn.refl (h : BoxAt H b) : Drawn b H H := ⟨But.refl _ _, h⟩
theorem Drawn.trans (a : Drawn b H H1) (c : Drawn b H1 H2) : Drawn b H H2 := ⟨a.but.trans c.but, c.box⟩
theorem Drawn.same (a : Drawn b H H1) (e : Same H1 H2) : Drawn b H H2 := a.trans (Drawn.of a.box e)
theorem Drawn.tps (d : Drawn b H H') (h : BoxAt H b) : Tps H H' := by
  obtain ⟨ys, hy⟩ := h.lst
  exact d.but.tps hy
/-- what is new may change -/
theorem Drawn.put (d : Drawn b H H1) (h : BoxAt H b) (ha : H a = none) {o : HO} : Drawn b H (upd H1 a o) := by
  have n1 := h.ne ha
  have n2 := h.ne2 ha
  refine ⟨fun c u n hc => ?_, ?_⟩
  · have hca : c ≠ a := fun e => by rw [e, ha] at hc; cases hc
    rw [upd_ne hca]
    exact d.but c u n hc
  · obtain ⟨⟨n, h1⟩, h2⟩ := d.box
    exact ⟨⟨n, by rw [upd_ne (Ne.symm n1)]; exact h1⟩, by rw [upd_ne (Ne.symm n2)]; exact h2⟩
/-- a list that holds no number beside an object stands -/
theorem Drawn.sq {K : PySem.W.Frag} {xs : List V} (d : Drawn b H H') (h : BoxAt H b) (hx : ∀ r i, xs ≠ [.ref r, .int i]) (hs : SqL K H a xs) : SqL K H' a xs := by
  rcases hs with hs | hs
  · refine d.but.lst ?_ (.inl hs)
    rintro rfl
    obtain ⟨n, h1⟩ := h.at_
    rcases hs with hs | ⟨o, hs⟩
    · rw [h1] at hs; cases hs; exact hx _ _ rfl
    · rw [h1] at hs; cases hs
  · exact .inr hs
theorem Drawn.strs {K : PySem.W.Frag} {ss : List Str} (d : Drawn b H H') (h : BoxAt H b) (hs : SqL K H a (ss.map V.str)) : SqL K H' a (ss.map V.str) :=
  d.sq h (fun r i e => by cases ss with | nil => cases e | cons s ss => cases e) hs
/-- what stands beside the box -/
theorem Drawn.at {o : HO} (d : Drawn b H H') (hn : a ≠ b.bx) (h : H a = some o) : H' a = some o := d.but _ _ hn h
end
/-- what an expression of the law is -/
structure ExprG (e : List Node) : Prop where
  ok : ExprOk e
  len : e.length ≤ 30
  vals : ∀ nd ∈ e, ∀ v, nd = Node.value v → ValGood v
/-- names, uids of the law -/
structure NamesG (l : List Str) (n : Nat) : Prop where
  nodup : l.Nodup
  name : ∀ s ∈ l, isName s = true
  len : l.length = n
structure UidsG (l : List Str) (n : Nat) : Prop where
  nodup : l.Nodup
  uid : ∀ s ∈ l, isUid s = true
  len : l.length = n
section
variable (K : PySem.W.Frag)
def sp_law_cell : Sp := fun vs H Q _ => ∃ (a : Addr) (ns : List Int), ∃ k : Nat, vs = [.ref a, .int k] ∧ SqL K H a (ns.map V.int) ∧ ∀ i : Int, Q (.int i) H
def sp_law_digits : Sp := fun vs H Q _ => ∃ (a : Addr) (ns : List Int), vs = [.ref a, .int 0, .int 63] ∧ SqL K H a (ns.map V.int) ∧ ∀ D (ds : List Int) H', Same H H' → H D = none → H' D = some (.lst (ds.map V.int)) → Q (.ref D) H'
def sp_law_draw : Sp := fun vs H Q _ => ∃ bx m, vs = [.ref bx.bx, .int m] ∧ 0 < m ∧ BoxAt H bx ∧ ∀ (i : Nat) H', Drawn bx H H' → (i : Int) < m → Q (.int i) H'
def sp_law_name : Sp := fun vs H Q _ => ∃ bx, vs = [.ref bx.bx] ∧ BoxAt H bx ∧ ∀ s H', Drawn bx H H' → isName s = true → Q (.str s) H'
def sp_law_pool : Sp := fun vs H Q _ => ∃ bx, ∃ m : Nat, vs = [.ref bx.bx, .int m] ∧ m ≤ 10 ∧ BoxAt H bx ∧ ∀ D (l : List Str) H', Drawn bx H H' → H D = none → H' D = some (.lst (l.map V.str)) → NamesG l m → Q (.ref D) H'
def sp_law_uids : Sp := fun vs H Q _ => ∃ bx, ∃ m : Nat, vs = [.ref bx.bx, .int m] ∧ m ≤ 10 ∧ BoxAt H bx ∧ ∀ D (l : List Str) H', Drawn bx H H' → H D = none → H' D = some (.lst (l.map V.str)) → UidsG l m → Q (.ref D) H'
def sp_law_scope : Sp := fun vs H Q _ => ∃ bx ua ka us ks, vs = [.ref bx.bx, .ref ua, .ref ka, .bl false] ∧ BoxAt H bx ∧ SqL K H ua (us.map V.str) ∧ SqL K H ka (ks.map V.str) ∧ (∀ u ∈ us, isUid u = true) ∧ us ≠ [] ∧ ks ≠ [] ∧
  ∀ v s H', Drawn bx H H' → Dp K H' v (encScope s) → PolGood.ScopeGood s → (∃ wd xs a, v = .ref a ∧ SqT K H' a xs ∧ atI xs (-1) = some (.str wd)) → Q v H'
def sp_law_key : Sp := fun vs H Q _ => ∃ v s, vs = [v] ∧ Dp K H v (encScal s) ∧ ∀ u H', Same H H' → Dp K H' u (.tuple [.int (rank s), match s with
  | .tr b => .bool b
  | .nu i => .int i
  | .tx z => .str z
  | .en z => .str z]) → Q u H'
def sp_law_set : Sp := fun vs H Q _ => ∃ v, ∃ l : List Scal, vs = [v, .int 8] ∧ Dp K H v (.list (l.map encScal)) ∧ (∀ s ∈ l, ScalGood s) ∧ l.length ≤ 20 ∧ ∀ u x H', Same H H' → Dp K H' u (encVal x) → ValGood x → Q u H'
def sp_law_number : Sp := fun vs H Q _ => ∃ bx, vs = [.ref bx.bx] ∧ BoxAt H bx ∧ ∀ (i : Int) H', Drawn bx H H' → -1000000 ≤ i → i ≤ 1000000 → Q (.int i) H'
def sp_law_text : Sp := fun vs H Q _ => ∃ bx, vs = [.ref bx.bx] ∧ BoxAt H bx ∧ ∀ s H', Drawn bx H H' → TextOk s → Q (.str s) H'
def sp_law_scalar : Sp := fun vs H Q _ => ∃ bx ua us, vs = [.ref bx.bx, .ref ua] ∧ BoxAt H bx ∧ SqL K H ua (us.map V.str) ∧ (∀ u ∈ us, isUid u = true) ∧ us ≠ [] ∧ ∀ v s H', Drawn bx H H' → Dp K H' v (encScal s) → ScalGood s → Q v H'
def sp_law_value : Sp := fun vs H Q _ => ∃ bx ua us, vs = [.ref bx.bx, .ref ua] ∧ BoxAt H bx ∧ SqL K H ua (us.map V.str) ∧ (∀ u ∈ us, isUid u = true) ∧ us ≠ [] ∧ ∀ v x H', Drawn bx H H' → Dp K H' v (encVal x) → ValGood x → Q v H'
def sp_law_leaf : Sp := fun vs H Q _ => ∃ bx ua na us ns wd, vs = [.ref bx.bx, .str wd, .ref ua, .ref na] ∧ BoxAt H bx ∧ SqL K H ua (us.map V.str) ∧ SqL K H na (ns.map V.str) ∧ (∀ u ∈ us, isUid u = true) ∧ us ≠ [] ∧ (∀ n ∈ ns, isName n = true) ∧ ns ≠ [] ∧
  ∀ v nd H', Drawn bx H H' → Dp K H' v (encNode nd) → ops nd = [] → NodeOk nd → (∀ x, nd = Node.value x → ValGood x) → Q v H'
def sp_law_pair : Sp := fun vs H Q _ => ∃ bx w1 w2, vs = [.ref bx.bx, .str w1, .str w2] ∧ BoxAt H bx ∧ ∀ (t : Two) H', Drawn bx H H' → Q (.str t.w) H'
def sp_law_expression : Sp := fun vs H Q _ => ∃ bx ua na us ns, vs = [.ref bx.bx, .ref ua, .ref na, .int 12] ∧ BoxAt H bx ∧ SqL K H ua (us.map V.str) ∧ SqL K H na (ns.map V.str) ∧ (∀ u ∈ us, isUid u = true) ∧ us ≠ [] ∧ (∀ n ∈ ns, isName n = true) ∧ ns ≠ [] ∧
  ∀ v e H', Drawn bx H H' → Dp K H' v (encExpr e) → ExprG e → Q v H'
def sp_law_kinds : Sp := fun vs H Q _ => ∃ ua us, vs = [.ref ua] ∧ SqL K H ua (us.map V.str) ∧ (∀ u ∈ us, isUid u = true) ∧ us ≠ [] ∧ us.length ≤ 100 ∧ ∀ D (ks : List Str) H', Same H H' → H D = none → H' D = some (.lst (ks.map V.str)) → ks ≠ [] → Q (.ref D) H'
def sp_law_policy : Sp := fun vs H Q _ => ∃ bx ua na us ns z, vs = [.ref bx.bx, .str z, .ref ua, .ref na, .bl false, .int 12] ∧ isName z = true ∧ BoxAt H bx ∧ SqL K H ua (us.map V.str) ∧ SqL K H na (ns.map V.str) ∧ (∀ u ∈ us, isUid u = true) ∧ us ≠ [] ∧ us.length ≤ 10 ∧ (∀ n ∈ ns, isName n = true) ∧ ns ≠ [] ∧
  ∀ v p H', Drawn bx H H' → Dp K H' v (encPol p) → PolG p → Q v H'
def sp_law_policies : Sp := fun vs H Q _ => ∃ bx ua na us ns, vs = [.ref bx.bx, .ref ua, .ref na, .int 6, .int 12] ∧ BoxAt H bx ∧ SqL K H ua (us.map V.str) ∧ SqL K H na (ns.map V.str) ∧ (∀ u ∈ us, isUid u = true) ∧ us ≠ [] ∧ us.length ≤ 10 ∧ (∀ n ∈ ns, isName n = true) ∧ ns ≠ [] ∧
  ∀ D (ps : List Pol) (xs : List V) H', Drawn bx H H' → H D = none → H' D = some (.lst xs) → DpAll K H' xs (ps.map encPol) → PolsG ps → Q (.ref D) H'
def sp_law_entities : Sp := fun vs H Q _ => ∃ bx ua na us ns, vs = [.ref bx.bx, .ref ua, .ref na] ∧ BoxAt H bx ∧ SqL K H ua (us.map V.str) ∧ SqL K H na (ns.map V.str) ∧ UidsG us 8 ∧ NamesG ns 5 ∧
  ∀ D (es : List Ent) (xs : List V) H', Drawn bx H H' → H D = none → H' D = some (.lst xs) → DpAll K H' xs (es.map encEnt) → DbOk es → Q (.ref D) H'
def sp_law_request : Sp := fun vs H Q _ => ∃ bx ua na us ns, vs = [.ref bx.bx, .ref ua, .ref na] ∧ BoxAt H bx ∧ SqL K H ua (us.map V.str) ∧ SqL K H na (ns.map V.str) ∧ UidsG us 8 ∧ NamesG ns 5 ∧
  ∀ v rq H', Drawn bx H H' → Dp K H' v (encReq rq) → ReqGood rq → Q v H'
end
abbrev O_law_cell (P : Program) (w : World) (K : PySem.W.Frag) (mg : Str → Option Value) (base : Heap) : Prop := FOk P w K mg base 1 (He.ga K "_law_cell") ["_law_script", "_law_k"] [] (sp_law_cell K)
abbrev O_law_digits (P : Program) (w : World) (K : PySem.W.Frag) (mg : Str → Option Value) (base : Heap) : Prop := FOk P w K mg base 2 (He.ga K "_law_digits") ["_law_script", "_law_first", "_law_last"] [] (sp_law_digits K)
abbrev O_law_draw (P : Program) (w : World) (K : PySem.W.Frag) (mg : Str → Option Value) (base : Heap) : Prop := FOk P w K mg base 1 (He.ga K "_law_draw") ["_law_box", "_law_many"] [] sp_law_draw
abbrev O_law_name (P : Program) (w : World) (K : PySem.W.Frag) (mg : Str → Option Value) (base : Heap) : Prop := FOk P w K mg base 2 (He.ga K "_law_name") ["_law_box"] [] sp_law_name
abbrev O_law_pool (P : Program) (w : World) (K : PySem.W.Frag) (mg : Str → Option Value) (base : Heap) : Prop := FOk P w K mg base 3 (He.ga K "_law_pool") ["_law_box", "_law_many"] [] sp_law_pool
abbrev O_law_uids (P : Program) (w : World) (K : PySem.W.Frag) (mg : Str → Option Value) (base : Heap) : Prop := FOk P w K mg base 4 (He.ga K "_law_uids") ["_law_box", "_law_many"] [] sp_law_uids
abbrev O_law_scope (P : Program) (w : World) (K : PySem.W.Frag) (mg : Str → Option Value) (base : Heap) : Prop := FOk P w K mg base 2 (He.ga K "_law_scope") ["_law_box", "_law_uids_here", "_law_kinds_here", "_law_slots"] [] (sp_law_scope K)
abbrev O_law_key (P : Program) (w : World) (K : PySem.W.Frag) (mg : Str → Option Value) (base : Heap) : Prop := FOk P w K mg base 1 (He.ga K "_law_key") ["_law_scalar_here"] [] (sp_law_key K)
abbrev O_law_set (P : Program) (w : World) (K : PySem.W.Frag) (mg : Str → Option Value) (base : Heap) : Prop := FOk P w K mg base 3 (He.ga K "_law_set") ["_law_scalars", "_law_most"] [] (sp_law_set K)
abbrev O_law_number (P : Program) (w : World) (K : PySem.W.Frag) (mg : Str → Option Value) (base : Heap) : Prop := FOk P w K mg base 2 (He.ga K "_law_number") ["_law_box"] [] sp_law_number
abbrev O_law_text (P : Program) (w : World) (K : PySem.W.Frag) (mg : Str → Option Value) (base : Heap) : Prop := FOk P w K mg base 2 (He.ga K "_law_text") ["_law_box"] [] sp_law_text
abbrev O_law_scalar (P : Program) (w : World) (K : PySem.W.Frag) (mg : Str → Option Value) (base : Heap) : Prop := FOk P w K mg base 3 (He.ga K "_law_scalar") ["_law_box", "_law_uids_here"] [] (sp_law_scalar K)
abbrev O_law_value (P : Program) (w : World) (K : PySem.W.Frag) (mg : Str → Option Value) (base : Heap) : Prop := FOk P w K mg base 4 (He.ga K "_law_value") ["_law_box", "_law_uids_here"] [] (sp_law_value K)
abbrev O_law_leaf (P : Program) (w : World) (K : PySem.W.Frag) (mg : Str → Option Value) (base : Heap) : Prop := FOk P w K mg base 5 (He.ga K "_law_leaf") ["_law_box", "_law_want", "_law_uids_here", "_law_names"] [] (sp_law_leaf K)
abbrev O_law_pair (P : Program) (w : World) (K : PySem.W.Frag) (mg : Str → Option Value) (base : Heap) : Prop := FOk P w K mg base 2 (He.ga K "_law_pair") ["_law_box", "_law_one", "_law_two"] [] sp_law_pair
abbrev O_law_expression (P : Program) (w : World) (K : PySem.W.Frag) (mg : Str → Option Value) (base : Heap) : Prop := FOk P w K mg base 6 (He.ga K "_law_expression") ["_law_box", "_law_uids_here", "_law_names", "_law_size"] [] (sp_law_expression K)
abbrev O_law_kinds (P : Program) (w : World) (K : PySem.W.Frag) (mg : Str → Option Value) (base : Heap) : Prop := FOk P w K mg base 1 (He.ga K "_law_kinds") ["_law_uids_here"] [] (sp_law_kinds K)
abbrev O_law_policy (P : Program) (w : World) (K : PySem.W.Frag) (mg : Str → Option Value) (base : Heap) : Prop := FOk P w K mg base 7 (He.ga K "_law_policy") ["_law_box", "_law_name_here", "_law_uids_here", "_law_names", "_law_slots", "_law_size"] [] (sp_law_policy K)
abbrev O_law_policies (P : Program) (w : World) (K : PySem.W.Frag) (mg : Str → Option Value) (base : Heap) : Prop := FOk P w K mg base 8 (He.ga K "_law_policies") ["_law_box", "_law_uids_here", "_law_names", "_law_many", "_law_size"] [] (sp_law_policies K)
abbrev O_law_entities (P : Program) (w : World) (K : PySem.W.Frag) (mg : Str → Option Value) (base : Heap) : Prop := FOk P w K mg base 5 (He.ga K "_law_entities") ["_law_box", "_law_uids_here", "_law_names"] [] (sp_law_entities K)
abbrev O_law_request (P : Program) (w : World) (K : PySem.W.Frag) (mg : Str → Option Value) (base : Heap) : Prop := FOk P w K mg base 5 (He.ga K "_law_request") ["_law_box", "_law_uids_here", "_law_names"] [] (sp_law_request K)
end FF
set_option Elab.async false
set_option linter.all false
set_option maxRecDepth 100000
set_option maxHeartbeats 4000000
/-! defs that show data: they run where no container is being shown -/
namespace FF
open PySem PySem.Spec PyProof.Rows L2
/-- as FnOk, where nothing guards against a container within itself -/
structure FnG (P : Program) (w : World) (K : PySem.W.Frag) (mg : Str → Option Value) (base : Heap) (k : Nat) (f : Addr) (fd : FuncData) (ps : List Str) (sp : Sp) : Prop where
  len : ∀ vs H Q E, sp vs H Q E → vs.length = ps.length
  go : ∀ (A : Around) (out : List Env) (s : Shared) (H : Hp) (args : Args) (us : List Value) (vs : List V) (Q : VK) (E : XK), Room k A → A.guards = some [] → Env0 P w K mg base A out s H → BindsTo s fd args (ps.zip us) → Vals vs us →
    sp vs H Q E → codeAny (model P w) A (.call (.ref f) args) (CR CX0 out P w H s Q E) s
structure FOkG (P : Program) (w : World) (K : PySem.W.Frag) (mg : Str → Option Value) (base : Heap) (k : Nat) (f : Addr) (ps : List Str) (sp : Sp) : Prop where
  ex : ∃ fd, FnG P w K mg base k f fd ps sp ∧ (∀ (s : Shared) (us : List Value), us.length = ps.length → BindsTo s fd ⟨us, []⟩ (ps.zip us))
  kp : PySem.W.keepIn K (.ref f) = true
section
variable {P : Program} {w : World} {K : PySem.W.Frag} {mg : Str → Option Value} {base : Heap}
/-- by its body -/
theorem mk_okG {d : He.DefD} {N ps : List Str} {k : Nat} {sp : Sp} (hf : ∃ fd, FnP K d fd) (S : FnScope N ps d.scope) (h0 : d.dfl = []) (hk : d.kwd = [])
    (hb : ∀ (kV doc pm : Value) (an : Option Addr) (cdv ct : Value) (us : List Value), us.length = ps.length → bindArgs (PySem.W.fnOf d.name d.qual d.params d.body d.scope .none kV doc pm an cdv ct) ⟨us, []⟩ = pure (ps.zip us))
    (len : ∀ vs H Q E, sp vs H Q E → vs.length = ps.length)
    (body : ∀ (f : Addr) (cdv : Value) (A : Around) (outer : List Env) (s : Shared) (H : Hp) (vs : List V) (Q : VK) (E : XK), Room k (A.deeper (envOfC d.qual d.scope s.heap.objs.size f cdv)) → A.guards = some [] → sp vs H Q E →
      ∃ t, PSs (cxOf CX0 P w K mg base N d.qual d.scope f cdv A outer s H E).nox d.body t ∧ t { nx := fun _ H' => Q .non H', rt := Q } (start N vs) H) : FOkG P w K mg base (k + 1) (He.fAd K d.at_) ps sp := by
  obtain ⟨fd, F⟩ := hf
  have F' : FunD K d.name d.qual d.params d.body d.scope [] (d.kws K) (He.fAd K d.at_) fd := by
    have e : d.dvs K = [] := by unfold He.DefD.dvs; rw [h0]; rfl
    rw [← e]
    exact F
  have bd := FunD.bindsA F' hb
  refine ⟨⟨fd, ⟨len, fun A out s H args us vs Q E hr hg e0 hbd r hsp => ?_⟩, bd⟩, F.kp⟩
  obtain ⟨oc, od, dV, kV, doc, pm, an, cdv, ct, osl, rfl, lk, hcd, _, _⟩ := F'.ex
  have hvl := len _ _ _ _ hsp
  have up : ∀ b o, base.get? b = some o → s.heap.get? b = some o := fun b o q => (e0.bs b o q).1
  have KX : K.In s.heap := e0.mod.kin.keeps up
  refine codeAny_call_function hr.depth (KX _ _ lk) rfl S.co S.gen rfl (PySem.W.codeRec_of KX hcd) (hbd _ _ _ _ ?_)
  refine wpAny_newFunctionEnv_cells S.kind (fun ⟨n, v⟩ hy => (S.par n (List.of_mem_zip hy).1).elim .inl fun q => .inr ⟨q, PySem.W.cellsFrom_some _ _ _ (.inl q)⟩) fun env he s1 x => ?_
  subst he
  refine ⟨(e0.mod.nolimit.keeps up).keeps x.toInCall.keep, codeAny_func ?_⟩
  obtain ⟨t, ht, hq⟩ := body _ cdv A out s H vs Q E (hr.deeper _) hg hsp
  have I : L2.Inv (cxOf CX0 P w K mg base N d.qual d.scope (He.fAd K d.at_) cdv A out s H E) [] (start N vs) H s1 := inv_start S hr.hd e0 hvl r x
  refine wpAny_mono (ht.nox.run [] s1 (start N vs) H _ I hq) (fun fl s' hs => ?_) fun e s' hs => hs
  cases fl with
  | ret u => obtain ⟨v, σ', H', J, rv, q⟩ := hs; exact ⟨v, H', J.os, J.bare, J.base, J.hok, rv, q⟩
  | next => obtain ⟨σ', H', J, q⟩ := hs; exact ⟨.non, H', J.os, J.bare, J.base, J.hok, rfl, q⟩
  | brk => obtain ⟨_, _, _, q⟩ := hs; exact False.elim q
  | cont => obtain ⟨_, _, _, q⟩ := hs; exact False.elim q
end
section
variable {X : Cx} {j k : Nat} {f : Addr} {ps : List Str} {sp : Sp} {x : Str} {p pos : Pos} {e : Expr} {es : List Expr} {t : TA}
theorem pe_uG (h : FOkG X.prog X.w X.K X.mg X.base j f ps sp) (hr : Room k X.A) (hgd : X.A.guards = some []) (hg : Gl X x) (hm : X.mg x = some (.ref f)) (ha : PA X (e :: es) t) (hjk : j ≤ k := by decide)
    (hdb : (x == ("__debug__" : Str)) = false := by decide) (he : starEach (e :: es) X.env = (false, eval e X.env) :: starEach es X.env := by rfl) (hpl : (backTo pos (starEach es X.env)).any (·.1) = false := by rfl) :
    PE X (.Call (.Name x p) (e :: es) [] pos) (tCall sp [] E0 t) := by
  obtain ⟨⟨fd, F, hb⟩, kp⟩ := h
  refine ⟨fun pins s σ H Q I hw => wpAny_Call_Name_kw (ld_glob I hg hm ?_ hdb)⟩
  refine PySem.W.callWith_K (h₀ := X.base) I.ok.mod.kin kp (thn (ha.run pos pins s σ H _ I hw) fun us s1 ⟨vs, H1, I1, r, q⟩ => ⟨I1.kIn, ?_⟩) he hpl
  replace q : sp (vs ++ []) H1 Q E0 := q
  rw [List.append_nil] at q
  have hl : us.length = ps.length := by rw [← r.length]; exact F.len _ _ _ _ q
  refine wpAny_call (codeAny_mono (F.go X.A X.stack s1 H1 ⟨us, []⟩ us vs Q E0 (hr.mono hjk) hgd I1.env0 (hb s1 us hl) r q) fun r s' hq => ?_)
  cases r with
  | error e => exact False.elim hq
  | ok fl =>
    cases fl with
    | ret u => exact I1.after hq
    | next => exact False.elim hq
    | brk => exact False.elim hq
    | cont => exact False.elim hq
/-- repr of a tuple of data -/
def rRepr (K : PySem.W.Frag) : List V → Hp → VK → Prop := fun vs H Q => ∃ (v : V) (ds : List PyData), vs = [v] ∧ Dp K H v (.tuple ds) ∧ (PyData.tuple ds).showable = true ∧ (PyData.tuple ds).hasDict = false ∧ (PyData.tuple ds).depth ≤ 64 ∧
  (PyData.tuple ds).shown.length ≤ sizeLine ∧ Q (.str (PyData.tuple ds).shown) H
theorem cr_reprD (hgd : X.A.guards = some []) (hu : X.A.units + 65 < cLine) : CallR X (.builtin "repr") (rRepr X.K) := by
  intro pins s σ H vs us Q I r h
  obtain ⟨v, ds, rfl, hv, h1, h2, h3, h4, q⟩ := h
  obtain ⟨u, rfl, ru⟩ := vals1 r
  obtain ⟨as, hr⟩ := Dp.reads I _ v u hv ru
  obtain ⟨a, xs, rfl, _, _⟩ := dp_tup hv
  cases ru
  exact repr_of_reads' hr h1 (fun e => by rw [h2] at e; cases e) hgd (by omega) (fun b o e => e) (fun h' u tk hk => ⟨.str _, H, I.kept hk, ⟨_, rfl⟩, q⟩) h4
end
end FF
set_option Elab.async false
set_option linter.all false
set_option maxRecDepth 100000
set_option maxHeartbeats 4000000
namespace FF
open PySem PySem.Spec PyProof.Rows L2
local macro_rules | `(tactic| walk_at "r") => `(tactic| repeat (first
   | refine ⟨_, rfl, ?_⟩
   | refine ⟨_, _, rfl, rfl, ?_⟩
   | refine ⟨rfl, ?_⟩
   | refine rixT (by assumption) rfl ?_
   | refine rixL (by assumption) rfl ?_
   | refine ifT (by decide +kernel) ?_
   | refine ifF (by decide +kernel) ?_))
section
variable {P : Program} {w : World} {K : PySem.W.Frag} {mg : Str → Option Value} {base : Heap}

theorem ok_law_cell (T : Top w K mg) : O_law_cell P w K mg base := by
  refine mk_ok (f_law_cell T) sc_law_cell rfl rfl (fun _ _ _ _ _ _ us hl => match us, hl with | [_, _], _ => rfl) (fun vs H Q E h => ?_) (fun f cdv A outer s H vs Q E hr h => ?_)
  · obtain ⟨a, ns, k, rfl, _⟩ := h
    rfl
  · obtain ⟨a, ns, k, rfl, hs, kk⟩ := h
    have sc := sc_law_cell
    refine ⟨_, (pss_cons (ps_if (pt_cmpR L2.op_lt (pv 1) (pe_callB call_len (by rfl) (n_len T) PySem.boot_len (pa_cons (pv 0) pa_nil)) (nomark _))
      (pss_one (ps_ret (pe_ix ix_seq (pv 0) (pv 1) (fun _ _ => rfl))))
      pss_nil)
      (pss_one (ps_ret pe_int))), ?_⟩
    refine ⟨_, rfl, _, rfl, _, _, rfl, lenL hs, _, _, rfl, rfl, _, rfl, ifB (fun hk => ?_) (fun hk => ?_)⟩
    · have hk' : k < ns.length := by simpa using hk
      exact ⟨_, rfl, _, rfl, rixL hs (atI_nat (j := k) (v := .int ns[k]) (by simp [hk'])) (kk _)⟩
    · exact kk 0
theorem len_ints {ds : List Int} {H : Hp} {D : Addr} (h : H D = some (.lst (ds.map V.int))) : True := trivial
theorem ok_law_digits (T : Top w K mg) (h_law_cell : O_law_cell P w K mg base) : O_law_digits P w K mg base := by
  refine mk_ok (f_law_digits T) sc_law_digits rfl rfl (fun _ _ _ _ _ _ us hl => match us, hl with | [_, _, _], _ => rfl) (fun vs H Q E h => ?_) (fun f cdv A outer s H vs Q E hr h => ?_)
  · obtain ⟨a, ns, rfl, _⟩ := h
    rfl
  · obtain ⟨a, ns, rfl, hs, kk⟩ := h
    have sc := sc_law_digits
    refine ⟨_, (pss_cons (ps_set (i := 3) sc.nd rfl (Or.inl rfl) (pe_lst pa_nil))
      (pss_cons (ps_for PassesOwn.never rfl (pi_range2 (by rfl) (n_range T) (pa_cons (pv 1) (pa_cons (pv 2) pa_nil))) (pg_name (i := 4) sc.nd rfl (Or.inl rfl))
      (pss_cons (ps_set (i := 5) sc.nd rfl (Or.inl rfl) (pe_u h_law_cell hr rfl (g_law_cell T) (pa_cons (pv 0) (pa_cons (pv 4) pa_nil))))
        (pss_cons (ps_if (pt_cmpR L2.op_lt (pv 5) pe_int (nomark _))
        (pss_one (ps_set (i := 5) sc.nd rfl (Or.inl rfl) (pe_op op_sub pe_int (pe_op op_mul pe_int (pv 5)))))
        pss_nil)
        (pss_one (ps_if (pt_cmpR op_ge (pv 5) pe_int (nomark _))
        (pss_one (ps_for PassesOwn.never rfl (pi_range1 rfl (n_range T) (pa_cons pe_int pa_nil)) (pg_name (i := 6) sc.nd rfl (Or.inl rfl))
          (pss_one (ps_if (pt_cmpR op_gt (pv 5) pe_int (nomark _))
            (pss_cons (ps_expr (pe_bm PySem.F.plainAttrs_list PySem.F.slot_list_append PySem.F.type_list_append mt_append (pv 3) (pa_cons (pe_op op_mod (pe_callTy call_int1 (by rfl) (n_int T) (by decide +kernel) (pa_cons (pv 5) pa_nil)) pe_int) pa_nil)))
              (pss_one (ps_set (i := 5) sc.nd rfl (Or.inl rfl) (pe_op op_fdiv (pv 5) pe_int))))
            pss_nil))))
        (pss_cons (ps_set (i := 7) sc.nd rfl (Or.inl rfl) (pe_op op_mod (pe_callTy call_int1 (by rfl) (n_int T) (by decide +kernel) (pa_cons (pe_op op_add (pe_op op_add (pe_op op_mul (pv 5) pe_int) (pe_op op_mul (pv 4) pe_int)) pe_int) pa_nil)) pe_int))
          (pss_one (ps_for PassesOwn.never rfl (pi_range1 rfl (n_range T) (pa_cons pe_int pa_nil)) (pg_name (i := 6) sc.nd rfl (Or.inl rfl))
          (pss_cons (ps_set (i := 7) sc.nd rfl (Or.inl rfl) (pe_op op_mod (pe_callTy call_int1 (by rfl) (n_int T) (by decide +kernel) (pa_cons (pe_op op_add (pe_op op_add (pe_op op_mul (pv 7) pe_int) (pe_op op_mul pe_int (pv 6))) pe_int) pa_nil)) pe_int))
            (pss_one (ps_expr (pe_bm PySem.F.plainAttrs_list PySem.F.slot_list_append PySem.F.type_list_append mt_append (pv 3) (pa_cons (pe_op op_mod (pe_callTy call_int1 (by rfl) (n_int T) (by decide +kernel) (pa_cons (pe_op op_fdiv (pv 7) pe_int) pa_nil)) pe_int) pa_nil)))))))))))))
      (pss_one (ps_ret (pv 3))))), ?_⟩
    have s64 : ∀ i : Int, -1000000 ≤ i → i ≤ 1000000 → -(2 ^ 64) < i ∧ i < 2 ^ 64 := fun i h1 h2 => by omega
    refine ⟨Nat.zero_le _, fun D hD => ?_⟩
    have grow : ∀ {H1 : Hp} {ds : List Int} {n : Nat} (x : Int), Same H H1 → H1 D = some (.lst (ds.map V.int)) → ds.length ≤ n → n ≤ 10000 → (ds.map V.int).length < sizeLine ∧ Same H (upd H1 D (.lst (ds.map V.int ++ [.int x]))) ∧ ∃ ds' : List Int, upd H1 D (.lst (ds.map V.int ++ [.int x])) D = some (.lst (ds'.map V.int)) ∧ ds'.length ≤ n + 1 := fun {H1 ds n} x hS h1 h2 h3 =>
      ⟨by rw [List.length_map]; exact szlt (by omega), same_mut hS hD, ds ++ [x], by rw [upd_same, List.map_append]; rfl, by rw [List.length_append, List.length_singleton]; omega⟩
    refine ⟨_, rfl, _, rfl, 0, 63, rfl, by decide, for_it walk_range (fun i σ H1 => (∃ o4 o5 o6 o7, σ = [some (.ref a), some (.int 0), some (.int 63), some (.ref D), o4, o5, o6, o7]) ∧ Same H H1 ∧ ∃ ds : List Int, H1 D = some (.lst (ds.map V.int)) ∧ ds.length ≤ 60 * i) ⟨⟨_, _, _, _, rfl⟩, same_new hD, [], upd_same, Nat.le_refl _⟩ (fun _ _ _ _ _ => trivial) ?_ ?_⟩
    · rintro i x σ H1 H2 hi ⟨⟨o4, o5, o6, o7, rfl⟩, hS, ds, hd, hl⟩ ⟨rfl, rfl⟩
      have hi63 : i < 63 := by simpa using hi
      refine ⟨_, rfl, _, rfl, a, ns, i, by simp, sqL_same hS hs, fun c => ?_⟩
      -- what is behind the sign's turn
      refine ⟨_, rfl, _, _, rfl, rfl, _, rfl, ?_⟩
      refine ifB (fun hneg => ?_) (fun hneg => ?_)
      · refine ⟨_, rfl, _, _, rfl, rfl, .inl (s64 _ (by decide) (by decide)), _, _, rfl, rfl, ?_⟩
        refine ⟨_, rfl, _, _, rfl, rfl, _, rfl, ifB (fun hbig => ?_) (fun hbig => ?_)⟩
        · refine ⟨60, rfl, by decide, by decide, for_it walk_range (fun j σ H1 => (∃ c o6, σ = [some (.ref a), some (.int 0), some (.int 63), some (.ref D), some (.int (0 + (i : Int))), some (.int c), o6, o7]) ∧ Same H H1 ∧ ∃ ds : List Int, H1 D = some (.lst (ds.map V.int)) ∧ ds.length ≤ 60 * i + j) ⟨⟨_, _, rfl⟩, hS, ds, hd, hl⟩ (fun _ _ _ _ _ => trivial) ?_ ?_⟩
          · rintro j x σ H3 H4 hj ⟨⟨c, o6, rfl⟩, hS3, ds3, hd3, hl3⟩ ⟨rfl, rfl⟩
            have hj60 : j < 60 := by simpa using hj
            refine ⟨_, rfl, _, _, rfl, rfl, _, rfl, ifB (fun hc => ?_) (fun hc => ?_)⟩
            · obtain ⟨g1, g2, ds', g3, g4⟩ := grow (c % 1000) hS3 hd3 hl3 (by omega)
              exact ⟨_, rfl, .inl ⟨rfl, _, sqN hd3⟩, _, rfl, .inl ⟨c, rfl, c, 1000, rfl, rfl, (by show (0 : Int) < 1000; decide), D, _, _, rfl, rfl, hd3, g1, _, rfl, c, 1000, rfl, rfl, ⟨by decide, by decide⟩, ⟨_, _, rfl⟩, g2, ds', g3, by omega⟩⟩
            · exact ⟨⟨_, _, rfl⟩, hS3, ds3, hd3, by omega⟩
          · rintro σ H3 ⟨⟨c, o6, rfl⟩, hS3, ds3, hd3, hl3⟩
            have hl3' : ds3.length ≤ 60 * i + 60 := hl3
            exact ⟨⟨_, _, _, _, rfl⟩, hS3, ds3, hd3, by omega⟩
        · refine ⟨_, rfl, _, _, rfl, rfl, .inr (s64 _ (by decide) (by decide)), _, rfl, _, _, rfl, rfl, .inr (s64 _ (by decide) (by decide)), _, _, rfl, rfl, _, _, rfl, rfl, .inl ⟨_, rfl, _, _, rfl, rfl, (by show (0 : Int) < _; decide), ?_⟩⟩
          refine ⟨12, rfl, by decide, by decide, for_it walk_range (fun j σ H1 => (∃ o5 o6 sd, σ = [some (.ref a), some (.int 0), some (.int 63), some (.ref D), some (.int (0 + (i : Int))), o5, o6, some (.int sd)]) ∧ Same H H1 ∧ ∃ ds : List Int, H1 D = some (.lst (ds.map V.int)) ∧ ds.length ≤ 60 * i + j) ⟨⟨_, _, _, rfl⟩, hS, ds, hd, hl⟩ (fun _ _ _ _ _ => trivial) ?_ ?_⟩
          · rintro j x σ H3 H4 hj ⟨⟨o5, o6, sd, rfl⟩, hS3, ds3, hd3, hl3⟩ ⟨rfl, rfl⟩
            have hj12 : j < 12 := by simpa using hj
            refine ⟨_, rfl, _, _, rfl, rfl, .inr (s64 _ (by decide) (by decide)), _, rfl, _, _, rfl, rfl, .inl (s64 _ (by decide) (by decide)), _, _, rfl, rfl, _, _, rfl, rfl, .inl ⟨_, rfl, _, _, rfl, rfl, (by show (0 : Int) < _; decide), ?_⟩⟩
            refine ⟨_, rfl, .inl ⟨rfl, _, sqN hd3⟩, _, rfl, _, _, rfl, rfl, ⟨by decide, by decide⟩, .inl ⟨_, rfl, _, _, rfl, rfl, (by show (0 : Int) < _; decide), ?_⟩⟩
            obtain ⟨g1, g2, ds', g3, g4⟩ := grow _ hS3 hd3 hl3 (by omega)
            exact ⟨D, _, _, rfl, rfl, hd3, g1, ⟨_, _, _, rfl⟩, g2, ds', g3, by omega⟩
          · rintro σ H3 ⟨⟨o5, o6, sd, rfl⟩, hS3, ds3, hd3, hl3⟩
            have hl3' : ds3.length ≤ 60 * i + 12 := hl3
            exact ⟨⟨_, _, _, _, rfl⟩, hS3, ds3, hd3, by omega⟩
      · refine ⟨_, rfl, _, _, rfl, rfl, _, rfl, ifB (fun hbig => ?_) (fun hbig => ?_)⟩
        · refine ⟨60, rfl, by decide, by decide, for_it walk_range (fun j σ H1 => (∃ c o6, σ = [some (.ref a), some (.int 0), some (.int 63), some (.ref D), some (.int (0 + (i : Int))), some (.int c), o6, o7]) ∧ Same H H1 ∧ ∃ ds : List Int, H1 D = some (.lst (ds.map V.int)) ∧ ds.length ≤ 60 * i + j) ⟨⟨_, _, rfl⟩, hS, ds, hd, hl⟩ (fun _ _ _ _ _ => trivial) ?_ ?_⟩
          · rintro j x σ H3 H4 hj ⟨⟨c, o6, rfl⟩, hS3, ds3, hd3, hl3⟩ ⟨rfl, rfl⟩
            have hj60 : j < 60 := by simpa using hj
            refine ⟨_, rfl, _, _, rfl, rfl, _, rfl, ifB (fun hc => ?_) (fun hc => ?_)⟩
            · obtain ⟨g1, g2, ds', g3, g4⟩ := grow (c % 1000) hS3 hd3 hl3 (by omega)
              exact ⟨_, rfl, .inl ⟨rfl, _, sqN hd3⟩, _, rfl, .inl ⟨c, rfl, c, 1000, rfl, rfl, (by show (0 : Int) < 1000; decide), D, _, _, rfl, rfl, hd3, g1, _, rfl, c, 1000, rfl, rfl, ⟨by decide, by decide⟩, ⟨_, _, rfl⟩, g2, ds', g3, by omega⟩⟩
            · exact ⟨⟨_, _, rfl⟩, hS3, ds3, hd3, by omega⟩
          · rintro σ H3 ⟨⟨c, o6, rfl⟩, hS3, ds3, hd3, hl3⟩
            have hl3' : ds3.length ≤ 60 * i + 60 := hl3
            exact ⟨⟨_, _, _, _, rfl⟩, hS3, ds3, hd3, by omega⟩
        · refine ⟨_, rfl, _, _, rfl, rfl, .inr (s64 _ (by decide) (by decide)), _, rfl, _, _, rfl, rfl, .inr (s64 _ (by decide) (by decide)), _, _, rfl, rfl, _, _, rfl, rfl, .inl ⟨_, rfl, _, _, rfl, rfl, (by show (0 : Int) < _; decide), ?_⟩⟩
          refine ⟨12, rfl, by decide, by decide, for_it walk_range (fun j σ H1 => (∃ o5 o6 sd, σ = [some (.ref a), some (.int 0), some (.int 63), some (.ref D), some (.int (0 + (i : Int))), o5, o6, some (.int sd)]) ∧ Same H H1 ∧ ∃ ds : List Int, H1 D = some (.lst (ds.map V.int)) ∧ ds.length ≤ 60 * i + j) ⟨⟨_, _, _, rfl⟩, hS, ds, hd, hl⟩ (fun _ _ _ _ _ => trivial) ?_ ?_⟩
          · rintro j x σ H3 H4 hj ⟨⟨o5, o6, sd, rfl⟩, hS3, ds3, hd3, hl3⟩ ⟨rfl, rfl⟩
            have hj12 : j < 12 := by simpa using hj
            refine ⟨_, rfl, _, _, rfl, rfl, .inr (s64 _ (by decide) (by decide)), _, rfl, _, _, rfl, rfl, .inl (s64 _ (by decide) (by decide)), _, _, rfl, rfl, _, _, rfl, rfl, .inl ⟨_, rfl, _, _, rfl, rfl, (by show (0 : Int) < _; decide), ?_⟩⟩
            refine ⟨_, rfl, .inl ⟨rfl, _, sqN hd3⟩, _, rfl, _, _, rfl, rfl, ⟨by decide, by decide⟩, .inl ⟨_, rfl, _, _, rfl, rfl, (by show (0 : Int) < _; decide), ?_⟩⟩
            obtain ⟨g1, g2, ds', g3, g4⟩ := grow _ hS3 hd3 hl3 (by omega)
            exact ⟨D, _, _, rfl, rfl, hd3, g1, ⟨_, _, _, rfl⟩, g2, ds', g3, by omega⟩
          · rintro σ H3 ⟨⟨o5, o6, sd, rfl⟩, hS3, ds3, hd3, hl3⟩
            have hl3' : ds3.length ≤ 60 * i + 12 := hl3
            exact ⟨⟨_, _, _, _, rfl⟩, hS3, ds3, hd3, by omega⟩
    · rintro σ H1 ⟨⟨o4, o5, o6, o7, rfl⟩, hS, ds, hd, hl⟩
      exact ⟨_, rfl, kk D ds H1 hS hD hd⟩
theorem ok_law_draw (T : Top w K mg) : O_law_draw P w K mg base := by
  refine mk_ok (f_law_draw T) sc_law_draw rfl rfl (fun _ _ _ _ _ _ us hl => match us, hl with | [_, _], _ => rfl) (fun vs H Q E h => ?_) (fun f cdv A outer s H vs Q E hr h => ?_)
  · obtain ⟨bx, m, rfl, _⟩ := h
    rfl
  · obtain ⟨b, m, rfl, hm, hb, kk⟩ := h
    have hne := hb.dl_ne
    obtain ⟨⟨n, h1⟩, h2⟩ := hb
    obtain ⟨bx, dl, ds⟩ := b
    simp only at hne h1 h2 kk
    have sc := sc_law_draw
    refine ⟨_, (pss_cons (ps_set (i := 2) sc.nd rfl (Or.inl rfl) (pe_ix ix_seq (pv 0) pe_int (fun _ _ => rfl)))
      (pss_cons (ps_asg (pe_op op_add (pv 2) pe_int) (pg_sub (pv 0) pe_int set_list))
      (pss_cons (ps_if (pt_cmpR L2.op_lt (pv 2) (pe_callB call_len (by rfl) (n_len T) PySem.boot_len (pa_cons (pe_ix ix_seq (pv 0) pe_int (fun _ _ => rfl)) pa_nil)) (nomark _))
      (pss_one (ps_ret (pe_op op_mod (pe_callTy call_int1 (by rfl) (n_int T) (by decide +kernel) (pa_cons (pe_ix ix_seq (pe_ix ix_seq (pv 0) pe_int (fun _ _ => rfl)) (pv 2) (fun _ _ => rfl)) pa_nil)) (pv 1))))
      pss_nil)
      (pss_one (ps_ret (pe_op op_mod (pe_callTy call_int1 (by rfl) (n_int T) (by decide +kernel) (pa_cons (pe_op op_add (pe_op op_mul (pv 2) pe_int) pe_int) pa_nil)) (pv 1))))))), ?_⟩
    refine ⟨_, rfl, rixL (sqN h1) rfl ?_⟩
    refine ⟨_, rfl, _, _, rfl, rfl, _, rfl, bx, _, _, 1, rfl, rfl, h1, rfl, ?_⟩
    have hbx : upd H bx (.lst [.ref dl, .int ((n + 1 : Nat) : Int)]) bx = some (.lst [.ref dl, .int ((n + 1 : Nat) : Int)]) := upd_same
    have hdl : upd H bx (.lst [.ref dl, .int ((n + 1 : Nat) : Int)]) dl = some (.lst (ds.map V.int)) := by rw [upd_ne hne]; exact h2
    have hD : Drawn ⟨bx, dl, ds⟩ H (upd H bx (.lst [.ref dl, .int ((n + 1 : Nat) : Int)])) := ⟨(But.refl _ _).put, ⟨n + 1, hbx⟩, hdl⟩
    have fin : ∀ x : Int, Q (.int (x % m)) (upd H bx (.lst [.ref dl, .int ((n + 1 : Nat) : Int)])) := fun x => by
      have h3 := Int.emod_nonneg x (show m ≠ 0 by omega)
      have h4 := Int.emod_lt_of_pos x hm
      have e : x % m = ((x % m).toNat : Int) := (Int.toNat_of_nonneg h3).symm
      rw [e]
      exact kk (x % m).toNat _ hD (by omega)
    refine ⟨_, rfl, _, rfl, rixL (sqN hbx) rfl ⟨_, _, rfl, lenL (sqN hdl), _, _, rfl, rfl, _, rfl, ifB (fun hk => ?_) (fun hk => ?_)⟩⟩
    · have hk' : n < ds.length := by simpa using hk
      exact ⟨_, rfl, rixL (sqN hbx) rfl ⟨_, rfl, rixL (sqN hdl) (atI_nat (j := n) (v := .int ds[n]) (by simp [hk'])) (.inl ⟨_, rfl, _, rfl, _, _, rfl, rfl, hm, fin _⟩)⟩⟩
    · exact ⟨_, rfl, _, _, rfl, rfl, .inr (by decide), _, _, rfl, rfl, .inl ⟨_, rfl, _, rfl, _, _, rfl, rfl, hm, fin _⟩⟩
end
end FF
set_option Elab.async false
set_option linter.all false
set_option maxRecDepth 100000
set_option maxHeartbeats 4000000
namespace FF
open PySem PySem.Spec PyProof.Rows L2
local macro_rules | `(tactic| walk_at "r") => `(tactic| repeat (first
   | refine ⟨_, rfl, ?_⟩
   | refine ⟨_, _, rfl, rfl, ?_⟩
   | refine ⟨rfl, ?_⟩
   | refine rixT (by assumption) rfl ?_
   | refine rixL (by assumption) rfl ?_
   | refine ifT (by decide +kernel) ?_
   | refine ifF (by decide +kernel) ?_))
section
variable {P : Program} {w : World} {K : PySem.W.Frag} {mg : Str → Option Value} {base : Heap}

abbrev nameSigns : Str := "abcdefghijklmnopqrstuvwxyz0123456789"
abbrev textSigns : Str := " !#$&'()*+,-./0123456789:;<=>?@ABCDEFGHIJKLMNOPQRSTUVWXYZ[\\]^_`abcdefghijklmnopqrstuvwxyz{|}~"
theorem at_of {l : List Nat} {p : Nat → Bool} (h : l.all p = true) {i : Nat} (hi : i < l.length) : ∃ c, atI l (i : Int) = some c ∧ p c = true := by
  refine ⟨l[i], atI_nat (by simp [hi]), List.all_eq_true.mp h _ (List.getElem_mem hi)⟩
theorem name_sign {i : Nat} (hi : (i : Int) < 36) : ∃ c, atI (sg nameSigns) (i : Int) = some c ∧ signOk c = true :=
  at_of (l := sg nameSigns) (by decide +kernel) (by have : (sg nameSigns).length = 36 := by decide +kernel
                                                    omega)
theorem text_sign {i : Nat} (hi : (i : Int) < 93) : ∃ c, atI (sg textSigns) (i : Int) = some c ∧ textSign c = true :=
  at_of (l := sg textSigns) (by decide +kernel) (by have : (sg textSigns).length = 93 := by decide +kernel
                                                    omega)
theorem name_of {s : Str} {l : List Nat} (e : sg s = l) (h1 : 1 ≤ l.length) (h2 : l.length ≤ 12) (h3 : l.all signOk = true) : isName s = true := by
  unfold isName
  rw [len_sg, e]
  have : s.cps.toList.all signOk = true := by
    show (sg s).all signOk = true
    rw [e]; exact h3
  rw [this]
  simp [h1, h2]
theorem text_of {s : Str} {l : List Nat} (e : sg s = l) (h2 : l.length ≤ 40) (h3 : l.all textSign = true) : TextOk s := by
  refine ⟨by rw [len_sg, e]; exact h2, ?_⟩
  show (sg s).all textSign = true
  rw [e]; exact h3
theorem all_rep {p : Nat → Bool} {c : Nat} (h : p c = true) (n : Nat) : (List.replicate n c).all p = true := by
  rw [List.all_eq_true]
  intro x hx
  rw [(List.mem_replicate.mp hx).2]
  exact h
theorem ek : ("k" : Str) = ⟨#[107]⟩ := by decide +kernel
theorem ex' : ("x" : Str) = ⟨#[120]⟩ := by decide +kernel
theorem ok_law_name (T : Top w K mg) (h_law_draw : O_law_draw P w K mg base) : O_law_name P w K mg base := by
  refine mk_ok (f_law_name T) sc_law_name rfl rfl (fun _ _ _ _ _ _ us hl => match us, hl with | [_], _ => rfl) (fun vs H Q E h => ?_) (fun f cdv A outer s H vs Q E hr h => ?_)
  · obtain ⟨bx, rfl, _⟩ := h
    rfl
  · obtain ⟨bx, rfl, hb, k⟩ := h
    have sc := sc_law_name
    refine ⟨_, (pss_cons (ps_set (i := 1) sc.nd rfl (Or.inl rfl) pe_str)
      (pss_cons (ps_set (i := 2) sc.nd rfl (Or.inl rfl) (pe_u h_law_draw hr rfl (g_law_draw T) (pa_cons (pv 0) (pa_cons pe_int pa_nil))))
      (pss_cons (ps_if (pt_cmpR op_eq (pv 2) pe_int (nomark _))
      (pss_one (ps_ret (pe_ix ix_seq (pv 1) (pe_u h_law_draw hr rfl (g_law_draw T) (pa_cons (pv 0) (pa_cons pe_int pa_nil))) (fun _ _ => rfl))))
      pss_nil)
      (pss_cons (ps_if (pt_cmpR op_eq (pv 2) pe_int (nomark _))
      (pss_cons (ps_set (i := 3) sc.nd rfl (Or.inl rfl) (pe_u h_law_draw hr rfl (g_law_draw T) (pa_cons (pv 0) (pa_cons pe_int pa_nil))))
        (pss_one (ps_ret (pe_op op_add_str (pe_op op_add_str (pe_op op_mulS pe_str (pv 3)) (pe_ix ix_seq (pv 1) (pe_u h_law_draw hr rfl (g_law_draw T) (pa_cons (pv 0) (pa_cons pe_int pa_nil))) (fun _ _ => rfl))) (pe_op op_mulS pe_str (pe_op op_sub pe_int (pv 3)))))))
      pss_nil)
      (pss_cons (ps_set (i := 4) sc.nd rfl (Or.inl rfl) pe_str)
      (pss_cons (ps_for PassesOwn.never rfl (pi_range1 rfl (n_range T) (pa_cons (pe_op op_add pe_int (pe_u h_law_draw hr rfl (g_law_draw T) (pa_cons (pv 0) (pa_cons pe_int pa_nil)))) pa_nil)) (pg_name (i := 5) sc.nd rfl (Or.inl rfl))
      (pss_one (ps_set (i := 4) sc.nd rfl (Or.inl rfl) (pe_op op_add_str (pv 4) (pe_ix ix_seq (pv 1) (pe_u h_law_draw hr rfl (g_law_draw T) (pa_cons (pv 0) (pa_cons pe_int pa_nil))) (fun _ _ => rfl))))))
      (pss_one (ps_ret (pv 4))))))))), ?_⟩
    have hlen : (nameSigns).length ≤ sizeLine := by decide +kernel
    refine ⟨_, rfl, bx, 3, rfl, by decide, hb, fun i H1 hD1 hi => ?_⟩
    refine ⟨_, rfl, rfl, _, rfl, ifB (fun h0 => ?_) (fun h0 => ?_)⟩
    · refine ⟨_, rfl, _, rfl, bx, 36, rfl, by decide, hD1.box, fun j H2 hD2 hj => ?_⟩
      obtain ⟨c, hc, hs⟩ := name_sign hj
      refine rixS hlen hc (k _ H2 (hD1.trans hD2) (name_of (l := [c]) rfl (by simp) (by simp) (by simp [hs])))
    · refine ⟨_, rfl, rfl, _, rfl, ifB (fun h1 => ?_) (fun h1 => ?_)⟩
      · refine ⟨_, rfl, bx, 12, rfl, by decide, hD1.box, fun at_ H2 hD2 hat => ?_⟩
        refine ⟨_, rfl, 107, _, congrArg V.str ek, rfl, by omega, by omega, _, rfl, _, rfl, bx, 36, rfl, by decide, hD2.box, fun j H3 hD3 hj => ?_⟩
        obtain ⟨c, hc, hs⟩ := name_sign hj
        refine rixS hlen hc ⟨_, _, rfl, rfl, ?_, _, rfl, _, _, rfl, rfl, 107, _, congrArg V.str ek, rfl, by omega, by omega, _, _, rfl, rfl, ?_, k _ H3 (hD1.trans (hD2.trans hD3)) ?_⟩
        · rw [len_sg, len_sg]
          show (List.replicate _ 107).length + [c].length ≤ _
          rw [List.length_replicate]
          exact szl (by simp; omega)
        · rw [len_app, len_sg, len_sg, len_sg]
          show (List.replicate _ 107).length + [c].length + (List.replicate _ 107).length ≤ _
          rw [List.length_replicate, List.length_replicate]
          exact szl (by simp; omega)
        · refine name_of (l := List.replicate at_ 107 ++ [c] ++ List.replicate (11 - (at_ : Int)).toNat 107) ?_ (by simp; omega) (by simp; omega) ?_
          · rw [sg_append, sg_append]
            show List.replicate ((at_ : Nat) : Int).toNat 107 ++ [c] ++ _ = _
            rw [Int.toNat_natCast]
          · rw [List.all_append, List.all_append, all_rep (by decide), all_rep (by decide)]
            simp [hs]
      · refine ⟨_, rfl, bx, 12, rfl, by decide, hD1.box, fun n H2 hD2 hn => ⟨_, _, rfl, rfl, _, rfl, by omega, by omega, for_it walk_range (fun j σ H3 => (∃ z o5, σ = [some (.ref bx.bx), some (.str nameSigns), some (.int (i : Int)), none, some (.str z), o5] ∧ (sg z).length = j ∧ (sg z).all signOk = true) ∧ Drawn bx H H3) ⟨⟨_, _, rfl, by decide +kernel, by decide +kernel⟩, hD1.trans hD2⟩ (fun _ _ _ _ _ => trivial) ?_ ?_⟩⟩
        · rintro j x σ H3 H4 hj ⟨⟨z, o5, rfl, hzl, hza⟩, hD3⟩ ⟨rfl, rfl⟩
          refine ⟨_, rfl, _, rfl, _, rfl, bx, 36, rfl, by decide, hD3.box, fun q H5 hD5 hq => ?_⟩
          obtain ⟨c, hc, hs⟩ := name_sign hq
          refine rixS hlen hc ⟨_, _, rfl, rfl, ?_, ⟨_, _, rfl, ?_, ?_⟩, hD3.trans hD5⟩
          · rw [len_sg, hzl, len_sg]
            show _ + [c].length ≤ _
            have : j < (1 + (n : Int)).toNat := hj
            exact szl (by simp; omega)
          · rw [sg_append, List.length_append, hzl]
            rfl
          · rw [sg_append, List.all_append, hza]
            show (true && [c].all signOk) = true
            simp [hs]
        · rintro σ H3 ⟨⟨z, o5, rfl, hzl, hza⟩, hD3⟩
          exact ⟨_, rfl, k z H3 hD3 (name_of rfl (by rw [hzl]; omega) (by rw [hzl]; omega) hza)⟩
theorem spare_ok : ∀ i : Nat, i < 10 → isName (("spare" : Str) ++ toString (i : Int)) = true := by decide +kernel
theorem spare_inj : ∀ i : Nat, i < 10 → ∀ j : Nat, j < 10 → ("spare" : Str) ++ (toString (i : Int) : Str) = ("spare" : Str) ++ (toString (j : Int) : Str) → i = j := by decide +kernel
def spare (i : Nat) : Str := ("spare" : Str) ++ toString (i : Int)
theorem spare_all {m : Nat} (hm : m ≤ 10) {l : List Str} (h : ∀ j, j < m → spare j ∈ l) : m ≤ l.length := by
  have hn : ((List.range m).map spare).Nodup := by
    unfold List.Nodup
    rw [List.pairwise_map]
    refine List.Pairwise.imp_of_mem ?_ List.nodup_range
    intro a b ha hb hab e
    rw [List.mem_range] at ha hb
    exact hab (spare_inj a (by omega) b (by omega) e)
  have := nodup_le hn (m := l) fun x hx => by
    obtain ⟨j, hj, rfl⟩ := List.mem_map.mp hx
    exact h j (List.mem_range.mp hj)
  simpa using this
theorem ok_law_pool (T : Top w K mg) (h_law_name : O_law_name P w K mg base) : O_law_pool P w K mg base := by
  refine mk_ok (f_law_pool T) sc_law_pool rfl rfl (fun _ _ _ _ _ _ us hl => match us, hl with | [_, _], _ => rfl) (fun vs H Q E h => ?_) (fun f cdv A outer s H vs Q E hr h => ?_)
  · obtain ⟨bx, m, rfl, _⟩ := h
    rfl
  · obtain ⟨bx, m, rfl, hm, hb, k⟩ := h
    have sc := sc_law_pool
    refine ⟨_, (pss_cons (ps_set (i := 2) sc.nd rfl (Or.inl rfl) (pe_lst pa_nil))
      (pss_cons (ps_for PassesOwn.never rfl (pi_range1 rfl (n_range T) (pa_cons (pe_op op_mul pe_int (pv 1)) pa_nil)) (pg_name (i := 3) sc.nd rfl (Or.inl rfl))
      (pss_cons (ps_set (i := 4) sc.nd rfl (Or.inl rfl) (pe_u h_law_name hr rfl (g_law_name T) (pa_cons (pv 0) pa_nil)))
        (pss_one (ps_if (PW.pt (pw_and (pt_cmpR op_notIn_seq (pv 4) (pv 2) rfl) (pw_and1 (pt_cmpR L2.op_lt (pe_callB call_len (by rfl) (n_len T) PySem.boot_len (pa_cons (pv 2) pa_nil)) (pv 1) (nomark _)))))
        (pss_one (ps_expr (pe_bm PySem.F.plainAttrs_list PySem.F.slot_list_append PySem.F.type_list_append mt_append (pv 2) (pa_cons (pv 4) pa_nil))))
        pss_nil))))
      (pss_cons (ps_for PassesOwn.never rfl (pi_range1 rfl (n_range T) (pa_cons (pv 1) pa_nil)) (pg_name (i := 3) sc.nd rfl (Or.inl rfl))
      (pss_cons (ps_set (i := 4) sc.nd rfl (Or.inl rfl) (pe_op op_add_str pe_str (pe_callTy call_str_int (by rfl) (n_str T) (by decide +kernel) (pa_cons (pv 3) pa_nil))))
        (pss_one (ps_if (PW.pt (pw_and (pt_cmpR op_notIn_seq (pv 4) (pv 2) rfl) (pw_and1 (pt_cmpR L2.op_lt (pe_callB call_len (by rfl) (n_len T) PySem.boot_len (pa_cons (pv 2) pa_nil)) (pv 1) (nomark _)))))
        (pss_one (ps_expr (pe_bm PySem.F.plainAttrs_list PySem.F.slot_list_append PySem.F.type_list_append mt_append (pv 2) (pa_cons (pv 4) pa_nil))))
        pss_nil))))
      (pss_one (ps_ret (pv 2)))))), ?_⟩
    refine ⟨Nat.zero_le _, fun D hD => ?_⟩
    have hDb := hb.ne hD
    have d0 : Drawn bx H (upd H D (.lst [])) := Drawn.of hb (same_new hD)
    let St : List Str → Hp → Prop := fun l H1 => Drawn bx H H1 ∧ H1 D = some (.lst (l.map V.str)) ∧ l.Nodup ∧ (∀ x ∈ l, isName x = true) ∧ l.length ≤ m
    -- the list grown by a new name
    have add : ∀ {H1 : Hp} {l : List Str} {z : Str}, St l H1 → isName z = true → z ∉ l → l.length < m → (l.map V.str).length < sizeLine ∧ St (l ++ [z]) (upd H1 D (.lst (l.map V.str ++ [.str z]))) := by
      rintro H1 l z ⟨hd, hl, hn, hok, hlm⟩ hz hzl hlt
      refine ⟨by rw [List.length_map]; exact szlt (by omega), hd.put hb hD, by rw [upd_same, List.map_append]; rfl, ?_, ?_, by rw [List.length_append, List.length_singleton]; omega⟩
      · rw [List.nodup_append]
        exact ⟨hn, by simp, fun a ha b hb' => by rw [List.mem_singleton.mp hb']; exact fun e => hzl (e ▸ ha)⟩
      · intro x hx
        rcases List.mem_append.mp hx with h | h
        · exact hok x h
        · rw [List.mem_singleton.mp h]; exact hz
    refine ⟨_, rfl, _, _, rfl, rfl, .inl (by constructor <;> omega), _, rfl, by omega, by omega, for_it walk_range (fun i σ H1 => (∃ o3 o4, σ = [some (.ref bx.bx), some (.int (m : Int)), some (.ref D), o3, o4]) ∧ ∃ l, St l H1) ⟨⟨_, _, rfl⟩, [], d0, upd_same, by simp, by simp, Nat.zero_le _⟩ (fun _ _ _ _ _ => trivial) ?_ ?_⟩
    · rintro i x σ H1 H2 hi ⟨⟨o3, o4, rfl⟩, l, hd, hl, hn, hok, hlm⟩ ⟨rfl, rfl⟩
      refine ⟨_, rfl, bx, rfl, hd.box, fun z H3 hD3 hz => ?_⟩
      have st3 : St l H3 := ⟨hd.trans hD3, hD3.at hDb hl, hn, hok, hlm⟩
      refine ⟨_, rfl, _, rfl, D, _, rfl, .inl (sqN st3.2.1), rfl, flat_strs _, _, rfl, ?_⟩
      show if (!inV (.str z) (l.map V.str)) = true then _ else _
      rw [inV_strs]
      refine ifB (fun h1 => ?_) (fun h1 => ?_)
      · refine ⟨_, rfl, _, _, rfl, lenL (sqN st3.2.1), _, rfl, _, _, rfl, rfl, _, rfl, ifB (fun h2 => ?_) (fun h2 => ?_)⟩
        · obtain ⟨g1, g2⟩ := add st3 hz (by simpa using h1) (by simpa using h2)
          exact ⟨_, rfl, .inl ⟨rfl, _, sqN st3.2.1⟩, _, rfl, D, _, _, rfl, rfl, st3.2.1, g1, ⟨_, _, rfl⟩, _, g2⟩
        · exact ⟨⟨_, _, rfl⟩, l, st3⟩
      · exact ifF rfl ⟨⟨_, _, rfl⟩, l, st3⟩
    · rintro σ H1 ⟨⟨o3, o4, rfl⟩, l, st⟩
      refine ⟨_, rfl, _, rfl, by omega, by omega, for_it walk_range (fun i σ H1 => (∃ o3 o4, σ = [some (.ref bx.bx), some (.int (m : Int)), some (.ref D), o3, o4]) ∧ ∃ l, St l H1 ∧ (l.length = m ∨ ∀ j, j < i → spare j ∈ l)) ⟨⟨_, _, rfl⟩, l, st, .inr fun j hj => absurd hj (Nat.not_lt_zero j)⟩ (fun _ _ _ _ _ => trivial) ?_ ?_⟩
      · rintro i x σ H1 H2 hi ⟨⟨o3, o4, rfl⟩, l, st3, hsp⟩ ⟨rfl, rfl⟩
        have him : i < m := by simpa using hi
        have hi10 : i < 10 := by omega
        have hsn := spare_ok i hi10
        have hsl := name_len hsn
        have e0 : ((0 : Int) + (i : Int)) = (i : Int) := by omega
        refine ⟨_, rfl, _, rfl, ?_, _, _, rfl, rfl, ?_, ?_⟩
        · rw [e0, Int.natAbs_natCast]
          have : Nat.log2 i ≤ i := Nat.log2_le_self i
          omega
        · rw [e0]
          rw [len_app] at hsl
          exact szl (by omega)
        · rw [e0]
          refine ⟨_, rfl, _, rfl, D, _, rfl, .inl (sqN st3.2.1), rfl, flat_strs _, _, rfl, ?_⟩
          show if (!inV (.str (spare i)) (l.map V.str)) = true then _ else _
          rw [inV_strs]
          refine ifB (fun h1 => ?_) (fun h1 => ?_)
          · refine ⟨_, rfl, _, _, rfl, lenL (sqN st3.2.1), _, rfl, _, _, rfl, rfl, _, rfl, ifB (fun h2 => ?_) (fun h2 => ?_)⟩
            · obtain ⟨g1, g2⟩ := add (z := spare i) st3 hsn (by simpa using h1) (by simpa using h2)
              refine ⟨_, rfl, .inl ⟨rfl, _, sqN st3.2.1⟩, _, rfl, D, _, _, rfl, rfl, st3.2.1, g1, ⟨_, _, rfl⟩, _, g2, ?_⟩
              rcases hsp with h | h
              · have : l.length < m := by simpa using h2
                omega
              · refine .inr fun j hj => ?_
                by_cases hji : j = i
                · subst hji; exact List.mem_append_right _ (List.mem_singleton.mpr rfl)
                · exact List.mem_append_left _ (h j (by omega))
            · refine ⟨⟨_, _, rfl⟩, l, st3, .inl ?_⟩
              have := st3.2.2.2.2
              have h3 : ¬ l.length < m := by simpa using h2
              omega
          · refine ifF rfl ⟨⟨_, _, rfl⟩, l, st3, ?_⟩
            rcases hsp with h | h
            · exact .inl h
            · refine .inr fun j hj => ?_
              by_cases hji : j = i
              · subst hji; simpa using h1
              · exact h j (by omega)
      · rintro σ H1 ⟨⟨o3, o4, rfl⟩, l, ⟨hd, hl, hn, hok, hlm⟩, hsp⟩
        refine ⟨_, rfl, k D l H1 hd hD hl ⟨hn, hok, ?_⟩⟩
        rcases hsp with h | h
        · exact h
        · have := spare_all hm (l := l) fun j hj => h j (by simpa using hj)
          omega
theorem nodup_map {α β : Type} {f : α → β} : ∀ {l : List α}, (l.map f).Nodup → l.Nodup
  | [], _ => by simp
  | a :: l, h => by
    rw [List.map_cons, List.nodup_cons] at h
    rw [List.nodup_cons]
    exact ⟨fun hm => h.1 (List.mem_map_of_mem hm), nodup_map h.2⟩
def second (u : Str) : Str := (splitC 58 u).getD 1 Str.empty
theorem ok_law_uids (T : Top w K mg) (h_law_draw : O_law_draw P w K mg base) (h_law_pool : O_law_pool P w K mg base) : O_law_uids P w K mg base := by
  refine mk_ok (f_law_uids T) sc_law_uids rfl rfl (fun _ _ _ _ _ _ us hl => match us, hl with | [_, _], _ => rfl) (fun vs H Q E h => ?_) (fun f cdv A outer s H vs Q E hr h => ?_)
  · obtain ⟨bx, m, rfl, _⟩ := h
    rfl
  · obtain ⟨bx, m, rfl, hm, hb, k⟩ := h
    have sc := sc_law_uids
    refine ⟨_, (pss_cons (ps_set (i := 2) sc.nd rfl (Or.inl rfl) (pe_u h_law_pool hr rfl (g_law_pool T) (pa_cons (pv 0) (pa_cons pe_int pa_nil))))
      (pss_cons (ps_set (i := 3) sc.nd rfl (Or.inl rfl) (pe_lst pa_nil))
      (pss_cons (ps_for PassesOwn.never rfl (pi_list (pe_u h_law_pool hr rfl (g_law_pool T) (pa_cons (pv 0) (pa_cons (pv 1) pa_nil)))) (pg_name (i := 4) sc.nd rfl (Or.inl rfl))
      (pss_one (ps_expr (pe_bm PySem.F.plainAttrs_list PySem.F.slot_list_append PySem.F.type_list_append mt_append (pv 3) (pa_cons (pe_op op_add_str (pe_op op_add_str (pe_ix ix_seq (pv 2) (pe_u h_law_draw hr rfl (g_law_draw T) (pa_cons (pv 0) (pa_cons pe_int pa_nil))) (fun _ _ => rfl)) pe_str) (pv 4)) pa_nil)))))
      (pss_one (ps_ret (pv 3)))))), ?_⟩
    refine ⟨_, rfl, bx, 3, rfl, by decide, hb, fun Kd ks H1 hD1 hK0 hK hks => ?_⟩
    refine ⟨Nat.zero_le _, fun L hL => ?_⟩
    have hKb := hb.ne hK0
    have sL := same_new (o := HO.lst []) hL
    have d1 := hD1.same sL
    have hLH : H L = none := by
      cases q : H L with
      | none => rfl
      | some o =>
        have hne : L ≠ bx.bx := hD1.box.ne hL
        rw [hD1.at hne q] at hL; cases hL
    have hLb := hb.ne hLH
    refine ⟨_, rfl, _, rfl, bx, m, rfl, hm, d1.box, fun N ns H2 hD2 hN0 hN hns => ?_⟩
    have hNb := d1.box.ne hN0
    have hNL : N ≠ L := fun e => by rw [e, upd_same] at hN0; cases hN0
    have hd2 := d1.trans hD2
    have hL2 : H2 L = some (.lst []) := hD2.at hLb upd_same
    have hK2 : H2 Kd = some (.lst (ks.map V.str)) := hD2.at hKb (sL _ _ hK)
    have hKL : Kd ≠ L := fun e => by rw [← e, hK] at hL; cases hL
    refine ⟨N, rfl, ⟨_, sqN hN⟩, for_it walk_list (fun i σ H3 => (∃ o4, σ = [some (.ref bx.bx), some (.int (m : Int)), some (.ref Kd), some (.ref L), o4]) ∧ Drawn bx H H3 ∧ H3 N = some (.lst (ns.map V.str)) ∧ H3 Kd = some (.lst (ks.map V.str)) ∧ ∃ us : List Str, H3 L = some (.lst (us.map V.str)) ∧ us.map second = ns.take i ∧ (∀ u ∈ us, isUid u = true))
      ⟨⟨_, rfl⟩, hd2, hN, hK2, [], hL2, rfl, by simp⟩ (fun _ _ _ _ h => sqN h.2.2.1) ?_ ?_⟩
    · rintro i x σ H3 H4 hi ⟨⟨o4, rfl⟩, hd3, hN3, hK3, us, hL3, hus, huo⟩ ⟨rfl, hx⟩
      obtain ⟨n, hn, rfl⟩ := map_at hx
      have hnok := hns.name n (mem_at hn)
      refine ⟨_, rfl, .inl ⟨rfl, _, sqN hL3⟩, _, rfl, _, rfl, bx, 3, rfl, by decide, hd3.box, fun j H5 hD5 hj => ?_⟩
      have hjk : j < ks.length := by rw [hks.len]; omega
      have hkok := hks.name _ (List.getElem_mem hjk)
      have hK5 := hD5.at hKb hK3
      have l1 := name_len hkok
      have l2 := name_len hnok
      have lc : ((":" : Str)).length = 1 := by decide +kernel
      refine rixL (sqN hK5) (atI_nat (j := j) (v := .str ks[j]) (by simp [hjk])) ⟨_, _, rfl, rfl, by rw [lc]; exact szl (by omega), _, rfl, _, _, rfl, rfl, by rw [len_app, lc]; exact szl (by omega), ?_⟩
      have hL5 := hD5.at hLb hL3
      have hil : i < ns.length := by simpa using hi
      have hlen : us.length = i := by
        have := congrArg List.length hus
        rw [List.length_map, List.length_take] at this
        omega
      refine ⟨L, _, _, rfl, rfl, hL5, by rw [List.length_map, hlen]; exact szlt (by have := hns.len; omega), ⟨_, rfl⟩, (hd3.trans hD5).put hb hLH, ?_, ?_, us ++ [ks[j] ++ (":" : Str) ++ n], ?_, ?_, ?_⟩
      · rw [upd_ne hNL]; exact hD5.at hNb hN3
      · rw [upd_ne hKL]; exact hK5
      · rw [upd_same, List.map_append]; rfl
      · rw [List.map_append, hus, List.take_add_one, hn]
        have : second (ks[j] ++ (":" : Str) ++ n) = n := by
          unfold second
          rw [uid_mk hkok hnok]
          rfl
        rw [List.map_cons, this]
        rfl
      · intro u hu
        rcases List.mem_append.mp hu with h | h
        · exact huo u h
        · rw [List.mem_singleton.mp h]; exact uid_ok hkok hnok
    · rintro σ H3 ⟨⟨o4, rfl⟩, hd3, hN3, hK3, us, hL3, hus, huo⟩
      rw [List.take_of_length_le (by rw [List.length_map]; exact Nat.le_refl _)] at hus
      refine ⟨_, rfl, k L us H3 hd3 hLH hL3 ⟨nodup_map (f := second) (by rw [hus]; exact hns.nodup), huo, ?_⟩⟩
      have := congrArg List.length hus
      rw [List.length_map, hns.len] at this
      exact this
end
end FF
set_option Elab.async false
set_option linter.all false
set_option maxRecDepth 100000
set_option maxHeartbeats 4000000
namespace FF
open PySem PySem.Spec PyProof.Rows L2
local macro_rules | `(tactic| walk_at "r") => `(tactic| repeat (first
   | refine ⟨_, rfl, ?_⟩
   | refine ⟨_, _, rfl, rfl, ?_⟩
   | refine ⟨rfl, ?_⟩
   | refine rixT (by assumption) rfl ?_
   | refine rixL (by assumption) rfl ?_
   | refine ifT (by decide +kernel) ?_
   | refine ifF (by decide +kernel) ?_))
section
variable {P : Program} {w : World} {K : PySem.W.Frag} {mg : Str → Option Value} {base : Heap}

theorem ok_law_number (T : Top w K mg) (h_law_draw : O_law_draw P w K mg base) : O_law_number P w K mg base := by
  refine mk_ok (f_law_number T) sc_law_number rfl rfl (fun _ _ _ _ _ _ us hl => match us, hl with | [_], _ => rfl) (fun vs H Q E h => ?_) (fun f cdv A outer s H vs Q E hr h => ?_)
  · obtain ⟨bx, rfl, _⟩ := h
    rfl
  · obtain ⟨bx, rfl, hb, k⟩ := h
    have sc := sc_law_number
    refine ⟨_, (pss_cons (ps_set (i := 1) sc.nd rfl (Or.inl rfl) (pe_u h_law_draw hr rfl (g_law_draw T) (pa_cons (pv 0) (pa_cons pe_int pa_nil))))
      (pss_cons (ps_if (pt_cmpR op_eq (pv 1) pe_int (nomark _))
      (pss_one (ps_ret (pe_op op_sub (pe_u h_law_draw hr rfl (g_law_draw T) (pa_cons (pv 0) (pa_cons pe_int pa_nil))) pe_int)))
      pss_nil)
      (pss_cons (ps_if (PW.pt (pw_and (pt_cmpR op_eq (pv 1) pe_int (nomark _)) (pw_and1 (pt_cmpR op_eq (pe_u h_law_draw hr rfl (g_law_draw T) (pa_cons (pv 0) (pa_cons pe_int pa_nil))) pe_int (nomark _)))))
      (pss_one (ps_ret (pe_op op_sub (pe_op op_mul pe_int (pe_u h_law_draw hr rfl (g_law_draw T) (pa_cons (pv 0) (pa_cons pe_int pa_nil)))) pe_int)))
      pss_nil)
      (pss_cons (ps_set (i := 2) sc.nd rfl (Or.inl rfl) (pe_op op_add (pe_op op_mul pe_int (pe_u h_law_draw hr rfl (g_law_draw T) (pa_cons (pv 0) (pa_cons pe_int pa_nil)))) (pe_u h_law_draw hr rfl (g_law_draw T) (pa_cons (pv 0) (pa_cons pe_int pa_nil)))))
      (pss_one (ps_ret (pe_op op_mul (pv 2) (pe_op op_sub pe_int (pe_op op_mul pe_int (pe_u h_law_draw hr rfl (g_law_draw T) (pa_cons (pv 0) (pa_cons pe_int pa_nil)))))))))))), ?_⟩
    have cm : ∀ i j : Int, -10000000 ≤ i → i ≤ 10000000 → CMul i j := fun i j h1 h2 => .inl (by constructor <;> omega)
    have tail : ∀ H1 (o1 : Nat), Drawn bx H H1 → tSeq (tAsg (tOp (rI0 fun i j => .int (i + j)) (tOp (rI CMul fun i j => .int (i * j)) (tC (.int 1000)) (tCall sp_law_draw [] E0 (tCons (tVar 0) (tCons (tC (.int 1000)) tNil)))) (tCall sp_law_draw [] E0 (tCons (tVar 0) (tCons (tC (.int 1000)) tNil)))) (gName 2))
        (tRet (tOp (rI CMul fun i j => .int (i * j)) (tVar 2) (tOp (rI0 fun i j => .int (i - j)) (tC (.int 1)) (tOp (rI CMul fun i j => .int (i * j)) (tC (.int 2)) (tCall sp_law_draw [] E0 (tCons (tVar 0) (tCons (tC (.int 2)) tNil))))))) { nx := fun _ H' => Q .non H', rt := Q } [some (.ref bx.bx), some (.int (o1 : Int)), none] H1 := by
      intro H1 o1 hd
      refine ⟨_, rfl, bx, 1000, rfl, by decide, hd.box, fun a H2 hD2 ha => ⟨_, _, rfl, rfl, cm _ _ (by decide) (by decide), _, rfl, bx, 1000, rfl, by decide, hD2.box, fun b H3 hD3 hb' => ⟨_, _, rfl, rfl, ?_⟩⟩⟩
      refine ⟨_, rfl, _, rfl, bx, 2, rfl, by decide, hD3.box, fun c H4 hD4 hc => ⟨_, _, rfl, rfl, cm _ _ (by decide) (by decide), _, _, rfl, rfl, _, _, rfl, rfl, cm _ _ (by omega) (by omega), ?_⟩⟩
      have hD := hd.trans (hD2.trans (hD3.trans hD4))
      rcases (show c = 0 ∨ c = 1 by omega) with rfl | rfl
      · refine k _ H4 hD ?_ ?_ <;> simp <;> omega
      · refine k _ H4 hD ?_ ?_ <;> simp <;> omega
    refine ⟨_, rfl, bx, 4, rfl, by decide, hb, fun i H1 hD1 hi => ?_⟩
    refine ⟨_, rfl, rfl, _, rfl, ifB (fun h0 => ?_) (fun h0 => ?_)⟩
    · refine ⟨_, rfl, bx, 5, rfl, by decide, hD1.box, fun j H2 hD2 hj => ⟨_, _, rfl, rfl, k _ H2 (hD1.trans hD2) (by omega) (by omega)⟩⟩
    · refine ⟨_, rfl, rfl, _, rfl, ifB (fun h1 => ?_) (fun h1 => ifF rfl (tail H1 i hD1))⟩
      refine ⟨_, rfl, bx, 5, rfl, by decide, hD1.box, fun j H2 hD2 hj => ⟨rfl, _, rfl, ifB (fun h2 => ?_) (fun h2 => tail H2 i (hD1.trans hD2))⟩⟩
      refine ⟨_, rfl, bx, 2, rfl, by decide, hD2.box, fun c H3 hD3 hc => ⟨_, _, rfl, rfl, cm _ _ (by decide) (by decide), _, _, rfl, rfl, k _ H3 (hD1.trans (hD2.trans hD3)) (by omega) (by omega)⟩⟩
theorem slice_ab {i : Nat} (hi : (i : Int) < 4) : TextOk (cutS ("ab " : Str) none (some (i : Int))) := by
  rcases (show i = 0 ∨ i = 1 ∨ i = 2 ∨ i = 3 by omega) with rfl | rfl | rfl | rfl <;> exact ⟨by decide +kernel, by decide +kernel⟩
theorem ok_law_text (T : Top w K mg) (h_law_draw : O_law_draw P w K mg base) : O_law_text P w K mg base := by
  refine mk_ok (f_law_text T) sc_law_text rfl rfl (fun _ _ _ _ _ _ us hl => match us, hl with | [_], _ => rfl) (fun vs H Q E h => ?_) (fun f cdv A outer s H vs Q E hr h => ?_)
  · obtain ⟨bx, rfl, _⟩ := h
    rfl
  · obtain ⟨bx, rfl, hb, k⟩ := h
    have sc := sc_law_text
    refine ⟨_, (pss_cons (ps_set (i := 1) sc.nd rfl (Or.inl rfl) pe_str)
      (pss_cons (ps_set (i := 2) sc.nd rfl (Or.inl rfl) (pe_u h_law_draw hr rfl (g_law_draw T) (pa_cons (pv 0) (pa_cons pe_int pa_nil))))
      (pss_cons (ps_if (pt_cmpR op_eq (pv 2) pe_int (nomark _))
      (pss_one (ps_ret (pe_slice sl_any pe_str po_none (po_some (pe_u h_law_draw hr rfl (g_law_draw T) (pa_cons (pv 0) (pa_cons pe_int pa_nil)))))))
      pss_nil)
      (pss_cons (ps_set (i := 3) sc.nd rfl (Or.inl rfl) (pe_op op_add pe_int (pe_u h_law_draw hr rfl (g_law_draw T) (pa_cons (pv 0) (pa_cons pe_int pa_nil)))))
      (pss_cons (ps_if (pt_cmpR op_eq (pv 2) pe_int (nomark _))
      (pss_cons (ps_set (i := 4) sc.nd rfl (Or.inl rfl) (pe_u h_law_draw hr rfl (g_law_draw T) (pa_cons (pv 0) (pa_cons (pv 3) pa_nil))))
        (pss_one (ps_ret (pe_op op_add_str (pe_op op_add_str (pe_op op_mulS pe_str (pv 4)) (pe_ix ix_seq (pv 1) (pe_u h_law_draw hr rfl (g_law_draw T) (pa_cons (pv 0) (pa_cons (pe_callB call_len (by rfl) (n_len T) PySem.boot_len (pa_cons (pv 1) pa_nil)) pa_nil))) (fun _ _ => rfl))) (pe_op op_mulS pe_str (pe_op op_sub (pe_op op_sub (pv 3) (pv 4)) pe_int))))))
      pss_nil)
      (pss_cons (ps_set (i := 5) sc.nd rfl (Or.inl rfl) pe_str)
      (pss_cons (ps_for PassesOwn.never rfl (pi_range1 rfl (n_range T) (pa_cons (pv 3) pa_nil)) (pg_name (i := 6) sc.nd rfl (Or.inl rfl))
      (pss_one (ps_set (i := 5) sc.nd rfl (Or.inl rfl) (pe_op op_add_str (pv 5) (pe_ix ix_seq (pv 1) (pe_u h_law_draw hr rfl (g_law_draw T) (pa_cons (pv 0) (pa_cons (pe_callB call_len (by rfl) (n_len T) PySem.boot_len (pa_cons (pv 1) pa_nil)) pa_nil))) (fun _ _ => rfl))))))
      (pss_one (ps_ret (pv 5)))))))))), ?_⟩
    have hlen : (textSigns).length ≤ sizeLine := by decide +kernel
    have h93 : (textSigns).length = 93 := by decide +kernel
    refine ⟨_, rfl, bx, 3, rfl, by decide, hb, fun i H1 hD1 hi => ?_⟩
    refine ⟨_, rfl, rfl, _, rfl, ifB (fun h0 => ?_) (fun h0 => ?_)⟩
    · exact ⟨_, rfl, bx, 4, rfl, by decide, hD1.box, fun j H2 hD2 hj => ⟨_, rfl, slS (by decide +kernel) (k _ H2 (hD1.trans hD2) (slice_ab hj))⟩⟩
    · refine ⟨_, rfl, bx, 40, rfl, by decide, hD1.box, fun sz H2 hD2 hsz => ⟨_, _, rfl, rfl, ?_⟩⟩
      refine ⟨_, rfl, rfl, _, rfl, ifB (fun h1 => ?_) (fun h1 => ?_)⟩
      · refine ⟨_, rfl, _, rfl, bx, 1 + (sz : Int), rfl, by omega, hD2.box, fun at_ H3 hD3 hat => ?_⟩
        refine ⟨_, rfl, 120, _, congrArg V.str ex', rfl, by omega, by omega, _, rfl, _, rfl, _, rfl, _, _, rfl, lenS hlen, bx, _, rfl, by rw [h93]; decide, hD3.box, fun j H4 hD4 hj => ?_⟩
        rw [h93] at hj
        obtain ⟨c, hc, hs⟩ := text_sign hj
        refine rixS hlen hc ⟨_, _, rfl, rfl, ?_, _, rfl, _, rfl, _, _, rfl, rfl, _, _, rfl, rfl, 120, _, congrArg V.str ex', rfl, by omega, by omega, _, _, rfl, rfl, ?_, k _ H4 (hD1.trans (hD2.trans (hD3.trans hD4))) ?_⟩
        · rw [len_sg, len_sg]
          show (List.replicate _ 120).length + [c].length ≤ _
          rw [List.length_replicate]
          exact szl (by simp; omega)
        · rw [len_app, len_sg, len_sg, len_sg]
          show (List.replicate _ 120).length + [c].length + (List.replicate _ 120).length ≤ _
          rw [List.length_replicate, List.length_replicate]
          exact szl (by simp; omega)
        · refine text_of (l := List.replicate at_ 120 ++ [c] ++ List.replicate (1 + (sz : Int) - (at_ : Int) - 1).toNat 120) ?_ (by simp; omega) ?_
          · rw [sg_append, sg_append]
            show List.replicate ((at_ : Nat) : Int).toNat 120 ++ [c] ++ _ = _
            rw [Int.toNat_natCast]
          · rw [List.all_append, List.all_append, all_rep (by decide), all_rep (by decide)]
            simp [hs]
      · refine ⟨_, rfl, _, rfl, by omega, by omega, for_it walk_range (fun j σ H3 => (∃ z o6, σ = [some (.ref bx.bx), some (.str textSigns), some (.int (i : Int)), some (.int (1 + (sz : Int))), none, some (.str z), o6] ∧ (sg z).length = j ∧ (sg z).all textSign = true) ∧ Drawn bx H H3) ⟨⟨_, _, rfl, by decide +kernel, by decide +kernel⟩, hD1.trans hD2⟩ (fun _ _ _ _ _ => trivial) ?_ ?_⟩
        · rintro j x σ H3 H4 hj ⟨⟨z, o5, rfl, hzl, hza⟩, hD3⟩ ⟨rfl, rfl⟩
          refine ⟨_, rfl, _, rfl, _, rfl, _, rfl, _, _, rfl, lenS hlen, bx, _, rfl, by rw [h93]; decide, hD3.box, fun q H5 hD5 hq => ?_⟩
          rw [h93] at hq
          obtain ⟨c, hc, hs⟩ := text_sign hq
          refine rixS hlen hc ⟨_, _, rfl, rfl, ?_, ⟨_, _, rfl, ?_, ?_⟩, hD3.trans hD5⟩
          · rw [len_sg, hzl, len_sg]
            show _ + [c].length ≤ _
            have : j < (1 + (sz : Int)).toNat := hj
            exact szl (by simp; omega)
          · rw [sg_append, List.length_append, hzl]
            rfl
          · rw [sg_append, List.all_append, hza]
            show (true && [c].all textSign) = true
            simp [hs]
        · rintro σ H3 ⟨⟨z, o5, rfl, hzl, hza⟩, hD3⟩
          exact ⟨_, rfl, k z H3 hD3 (text_of rfl (by rw [hzl]; omega) hza)⟩
theorem pick {us : List Str} (hn : us ≠ []) : (0 : Int) < ((us.map V.str).length : Nat) := by
  cases us with
  | nil => exact absurd rfl hn
  | cons u us => simp
theorem pick_at {us : List Str} {j : Nat} (h : (j : Int) < ((us.map V.str).length : Nat)) : ∃ u ∈ us, atI (us.map V.str) (j : Int) = some (.str u) := by
  have hj : j < us.length := by simpa using h
  exact ⟨us[j], List.getElem_mem hj, atI_nat (by simp [hj])⟩
theorem ok_law_scalar (T : Top w K mg) (h_law_draw : O_law_draw P w K mg base) (h_law_number : O_law_number P w K mg base) (h_law_text : O_law_text P w K mg base) : O_law_scalar P w K mg base := by
  refine mk_ok (f_law_scalar T) sc_law_scalar rfl rfl (fun _ _ _ _ _ _ us hl => match us, hl with | [_, _], _ => rfl) (fun vs H Q E h => ?_) (fun f cdv A outer s H vs Q E hr h => ?_)
  · obtain ⟨bx, ua, us, rfl, _⟩ := h
    rfl
  · obtain ⟨bx, ua, us, rfl, hb, hu, huo, hun, k⟩ := h
    have sc := sc_law_scalar
    refine ⟨_, (pss_cons (ps_set (i := 2) sc.nd rfl (Or.inl rfl) (pe_u h_law_draw hr rfl (g_law_draw T) (pa_cons (pv 0) (pa_cons pe_int pa_nil))))
      (pss_cons (ps_if (pt_cmpR op_eq (pv 2) pe_int (nomark _))
      (pss_one (ps_ret (pe_tup (pa_cons pe_str (pa_cons (pe_cmpR op_eq (pe_u h_law_draw hr rfl (g_law_draw T) (pa_cons (pv 0) (pa_cons pe_int pa_nil))) pe_int (nomark _)) pa_nil)))))
      pss_nil)
      (pss_cons (ps_if (pt_cmpR op_le (pv 2) pe_int (nomark _))
      (pss_one (ps_ret (pe_tup (pa_cons pe_str (pa_cons (pe_u h_law_number hr rfl (g_law_number T) (pa_cons (pv 0) pa_nil)) pa_nil)))))
      pss_nil)
      (pss_cons (ps_if (pt_cmpR op_eq (pv 2) pe_int (nomark _))
      (pss_one (ps_ret (pe_tup (pa_cons pe_str (pa_cons (pe_u h_law_text hr rfl (g_law_text T) (pa_cons (pv 0) pa_nil)) pa_nil)))))
      pss_nil)
      (pss_one (ps_ret (pe_tup (pa_cons pe_str (pa_cons (pe_ix ix_seq (pv 1) (pe_u h_law_draw hr rfl (g_law_draw T) (pa_cons (pv 0) (pa_cons (pe_callB call_len (by rfl) (n_len T) PySem.boot_len (pa_cons (pv 1) pa_nil)) pa_nil))) (fun _ _ => rfl)) pa_nil))))))))), ?_⟩
    refine ⟨_, rfl, bx, 6, rfl, by decide, hb, fun i H1 hD1 hi => ?_⟩
    refine ⟨_, rfl, rfl, _, rfl, ifB (fun h0 => ?_) (fun h0 => ?_)⟩
    · refine ⟨_, rfl, bx, 2, rfl, by decide, hD1.box, fun j H2 hD2 hj => ⟨rfl, by show 2 ≤ sizeLine; decide, fun p hp => ?_⟩⟩
      exact k _ (.tr _) _ ((hD1.trans hD2).same (same_new hp)) (dp_new hp (.cons (.str _) (.cons (.bl _) .nil))) trivial
    · refine ⟨_, rfl, _, _, rfl, rfl, _, rfl, ifB (fun h1 => ?_) (fun h1 => ?_)⟩
      · refine ⟨_, rfl, bx, rfl, hD1.box, fun n H2 hD2 h2 h3 => ⟨by show 2 ≤ sizeLine; decide, fun p hp => ?_⟩⟩
        exact k _ (.nu n) _ ((hD1.trans hD2).same (same_new hp)) (dp_new hp (.cons (.str _) (.cons (.int _) .nil))) ⟨h2, h3⟩
      · refine ⟨_, rfl, rfl, _, rfl, ifB (fun h2 => ?_) (fun h2 => ?_)⟩
        · refine ⟨_, rfl, bx, rfl, hD1.box, fun z H2 hD2 hz => ⟨by show 2 ≤ sizeLine; decide, fun p hp => ?_⟩⟩
          exact k _ (.tx z) _ ((hD1.trans hD2).same (same_new hp)) (dp_new hp (.cons (.str _) (.cons (.str _) .nil))) hz
        · have hu1 := hD1.strs hb hu
          refine ⟨_, rfl, _, rfl, _, rfl, _, _, rfl, lenL hu1, bx, _, rfl, pick hun, hD1.box, fun j H2 hD2 hj => ?_⟩
          obtain ⟨u, hum, hua⟩ := pick_at hj
          refine rixL (hD2.strs hD1.box hu1) hua ⟨by show 2 ≤ sizeLine; decide, fun p hp => ?_⟩
          exact k _ (.en u) _ ((hD1.trans hD2).same (same_new hp)) (dp_new hp (.cons (.str _) (.cons (.str _) .nil))) (huo u hum)
theorem ok_law_scope (T : Top w K mg) (h_law_draw : O_law_draw P w K mg base) : O_law_scope P w K mg base := by
  refine mk_ok (f_law_scope T) sc_law_scope rfl rfl (fun _ _ _ _ _ _ us hl => match us, hl with | [_, _, _, _], _ => rfl) (fun vs H Q E h => ?_) (fun f cdv A outer s H vs Q E hr h => ?_)
  · obtain ⟨bx, ua, ka, us, ks, rfl, _⟩ := h
    rfl
  · obtain ⟨bx, ua, ka, us, ks, rfl, hb, hu, hk, huo, hun, hkn, k⟩ := h
    have sc := sc_law_scope
    refine ⟨_, (pss_cons (ps_set (i := 4) sc.nd rfl (Or.inl rfl) (pe_u h_law_draw hr rfl (g_law_draw T) (pa_cons (pv 0) (pa_cons pe_int pa_nil))))
      (pss_cons (ps_if (pt_cmpR op_eq (pv 4) pe_int (nomark _))
      (pss_one (ps_ret (pe_tup (pa_cons pe_str pa_nil))))
      pss_nil)
      (pss_cons (ps_if (pt_cmpR op_eq (pv 4) pe_int (nomark _))
      (pss_one (ps_ret (pe_tup (pa_cons pe_str (pa_cons (pe_ix ix_seq (pv 2) (pe_u h_law_draw hr rfl (g_law_draw T) (pa_cons (pv 0) (pa_cons (pe_callB call_len (by rfl) (n_len T) PySem.boot_len (pa_cons (pv 2) pa_nil)) pa_nil))) (fun _ _ => rfl)) pa_nil)))))
      pss_nil)
      (pss_cons (ps_set (i := 5) sc.nd rfl (Or.inl rfl) (pe_ix ix_seq (pe_lst (pa_cons pe_str (pa_cons pe_str (pa_cons pe_str pa_nil)))) (pe_op op_sub (pv 4) pe_int) (fun _ _ => rfl)))
      (pss_cons (ps_if (PW.pt (pw_and (pt_val (pv 3)) (pw_and1 (pt_cmpR op_eq (pe_u h_law_draw hr rfl (g_law_draw T) (pa_cons (pv 0) (pa_cons pe_int pa_nil))) pe_int (nomark _)))))
      (pss_one (ps_ret (pe_tup (pa_cons (pv 5) (pa_cons pe_str pa_nil)))))
      pss_nil)
      (pss_one (ps_ret (pe_tup (pa_cons (pv 5) (pa_cons (pe_ix ix_seq (pv 1) (pe_u h_law_draw hr rfl (g_law_draw T) (pa_cons (pv 0) (pa_cons (pe_callB call_len (by rfl) (n_len T) PySem.boot_len (pa_cons (pv 1) pa_nil)) pa_nil))) (fun _ _ => rfl)) pa_nil)))))))))), ?_⟩
    refine ⟨_, rfl, bx, 5, rfl, by decide, hb, fun i H1 hD1 hi => ?_⟩
    refine ⟨_, rfl, rfl, _, rfl, ifB (fun h0 => ?_) (fun h0 => ?_)⟩
    · exact ⟨by show 1 ≤ sizeLine; decide, fun p hp => k _ .any _ (hD1.same (same_new hp)) (dp_new hp (.cons (.str _) .nil)) trivial ⟨_, _, p, rfl, SqT.of upd_same, rfl⟩⟩
    · refine ⟨_, rfl, rfl, _, rfl, ifB (fun h1 => ?_) (fun h1 => ?_)⟩
      · have hk1 := hD1.strs hb hk
        refine ⟨_, rfl, _, rfl, _, rfl, _, _, rfl, lenL hk1, bx, _, rfl, pick hkn, hD1.box, fun j H2 hD2 hj => ?_⟩
        obtain ⟨z, _, hza⟩ := pick_at hj
        refine rixL (hD2.strs hD1.box hk1) hza ⟨by show 2 ≤ sizeLine; decide, fun p hp => ?_⟩
        exact k _ (.kind z) _ ((hD1.trans hD2).same (same_new hp)) (dp_new hp (.cons (.str _) (.cons (.str _) .nil))) trivial ⟨_, _, p, rfl, SqT.of upd_same, rfl⟩
      · have hi0 : i ≠ 0 := fun e => by subst e; simp at h0
        have hi1 : i ≠ 1 := fun e => by subst e; simp at h1
        refine ⟨by show 3 ≤ sizeLine; decide, fun W hW => ⟨_, rfl, _, _, rfl, rfl, ?_⟩⟩
        have sW := same_new (o := HO.lst [V.str "is", .str "in", .str "in"]) hW
        have d1 := hD1.same sW
        have hu1 := sqL_same sW (hD1.strs hb hu)
        have pickW : ∃ wd, atI [V.str "is", .str "in", .str "in"] ((i : Int) - 2) = some (.str wd) ∧ (wd = "is" ∨ wd = "in") := by
          rcases (show i = 2 ∨ i = 3 ∨ i = 4 by omega) with rfl | rfl | rfl
          · exact ⟨_, rfl, .inl rfl⟩
          · exact ⟨_, rfl, .inr rfl⟩
          · exact ⟨_, rfl, .inr rfl⟩
        obtain ⟨wd, hwa, hwd⟩ := pickW
        refine rixL (sqN upd_same) hwa ⟨_, rfl, false, rfl, ifF rfl (ifF rfl ?_)⟩
        refine ⟨_, rfl, _, rfl, _, rfl, _, rfl, _, _, rfl, lenL hu1, bx, _, rfl, pick hun, d1.box, fun j H2 hD2 hj => ?_⟩
        obtain ⟨u, hum, hua⟩ := pick_at hj
        refine rixL (hD2.strs d1.box hu1) hua ⟨by show 2 ≤ sizeLine; decide, fun p hp => ?_⟩
        rcases hwd with rfl | rfl
        · exact k _ (.is_ u) _ ((d1.trans hD2).same (same_new hp)) (dp_new hp (.cons (.str _) (.cons (.str _) .nil))) (huo u hum) ⟨_, _, p, rfl, SqT.of upd_same, rfl⟩
        · exact k _ (.in_ u) _ ((d1.trans hD2).same (same_new hp)) (dp_new hp (.cons (.str _) (.cons (.str _) .nil))) (huo u hum) ⟨_, _, p, rfl, SqT.of upd_same, rfl⟩
end
end FF
set_option Elab.async false
set_option linter.all false
set_option maxRecDepth 100000
set_option maxHeartbeats 4000000
namespace FF
open PySem PySem.Spec PyProof.Rows L2
local macro_rules | `(tactic| walk_at "r") => `(tactic| repeat (first
   | refine ⟨_, rfl, ?_⟩
   | refine ⟨_, _, rfl, rfl, ?_⟩
   | refine ⟨rfl, ?_⟩
   | refine rixT (by assumption) rfl ?_
   | refine rixL (by assumption) rfl ?_
   | refine ifT (by decide +kernel) ?_
   | refine ifF (by decide +kernel) ?_))
section
variable {P : Program} {w : World} {K : PySem.W.Frag} {mg : Str → Option Value} {base : Heap}

theorem pair6 {j : Nat} (h : (j : Int) < 6) : ∃ t : Two, atI [V.str "same", .str "less", .str "in", .str "contains", .str "and", .str "or"] (j : Int) = some (.str t.w) := by
  rcases (show j = 0 ∨ j = 1 ∨ j = 2 ∨ j = 3 ∨ j = 4 ∨ j = 5 by omega) with rfl | rfl | rfl | rfl | rfl | rfl
  · exact ⟨.same, rfl⟩
  · exact ⟨.less, rfl⟩
  · exact ⟨.isin, rfl⟩
  · exact ⟨.contains, rfl⟩
  · exact ⟨.and, rfl⟩
  · exact ⟨.or, rfl⟩
theorem pair3 {j : Nat} (h : (j : Int) < 3) : ∃ t : Two, atI [V.str "and", .str "or", .str "same"] (j : Int) = some (.str t.w) := by
  rcases (show j = 0 ∨ j = 1 ∨ j = 2 by omega) with rfl | rfl | rfl
  · exact ⟨.and, rfl⟩
  · exact ⟨.or, rfl⟩
  · exact ⟨.same, rfl⟩
theorem pair2 {j : Nat} (h : (j : Int) < 2) : ∃ t : Two, atI [V.str "less", .str "same"] (j : Int) = some (.str t.w) := by
  rcases (show j = 0 ∨ j = 1 by omega) with rfl | rfl
  · exact ⟨.less, rfl⟩
  · exact ⟨.same, rfl⟩
theorem pairI {j : Nat} (h : (j : Int) < 3) : ∃ t : Two, atI [V.str "in", .str "in", .str "same"] (j : Int) = some (.str t.w) := by
  rcases (show j = 0 ∨ j = 1 ∨ j = 2 by omega) with rfl | rfl | rfl
  · exact ⟨.isin, rfl⟩
  · exact ⟨.isin, rfl⟩
  · exact ⟨.same, rfl⟩
theorem ok_law_pair (T : Top w K mg) (h_law_draw : O_law_draw P w K mg base) : O_law_pair P w K mg base := by
  refine mk_ok (f_law_pair T) sc_law_pair rfl rfl (fun _ _ _ _ _ _ us hl => match us, hl with | [_, _, _], _ => rfl) (fun vs H Q E h => ?_) (fun f cdv A outer s H vs Q E hr h => ?_)
  · obtain ⟨bx, w1, w2, rfl, _⟩ := h
    rfl
  · obtain ⟨bx, w1, w2, rfl, hb, k⟩ := h
    have sc := sc_law_pair
    refine ⟨_, (pss_cons (ps_if (pt_cmpR op_eq (pe_u h_law_draw hr rfl (g_law_draw T) (pa_cons (pv 0) (pa_cons pe_int pa_nil))) pe_int (nomark _))
      (pss_one (ps_ret (pe_ix ix_seq (pe_lst (pa_cons pe_str (pa_cons pe_str (pa_cons pe_str (pa_cons pe_str (pa_cons pe_str (pa_cons pe_str pa_nil))))))) (pe_u h_law_draw hr rfl (g_law_draw T) (pa_cons (pv 0) (pa_cons pe_int pa_nil))) (fun _ _ => rfl))))
      pss_nil)
      (pss_cons (ps_if (PW.pt (pw_and (pt_cmpR op_eq (pv 1) pe_str (nomark _)) (pw_and1 (pt_cmpR op_eq (pv 2) pe_str (nomark _)))))
      (pss_one (ps_ret (pe_ix ix_seq (pe_lst (pa_cons pe_str (pa_cons pe_str (pa_cons pe_str pa_nil)))) (pe_u h_law_draw hr rfl (g_law_draw T) (pa_cons (pv 0) (pa_cons pe_int pa_nil))) (fun _ _ => rfl))))
      pss_nil)
      (pss_cons (ps_if (PW.pt (pw_and (pt_cmpR op_eq (pv 1) pe_str (nomark _)) (pw_and1 (pt_cmpR op_eq (pv 2) pe_str (nomark _)))))
      (pss_one (ps_ret (pe_ix ix_seq (pe_lst (pa_cons pe_str (pa_cons pe_str pa_nil))) (pe_u h_law_draw hr rfl (g_law_draw T) (pa_cons (pv 0) (pa_cons pe_int pa_nil))) (fun _ _ => rfl))))
      pss_nil)
      (pss_cons (ps_if (PW.pt (pw_and (pt_cmpR op_eq (pv 1) pe_str (nomark _)) (pw_and1 (PW.pt (pw_or (pt_cmpR op_eq (pv 2) pe_str (nomark _)) (pw_or1 (pt_cmpR op_eq (pv 2) pe_str (nomark _))))))))
      (pss_one (ps_ret (pe_ix ix_seq (pe_lst (pa_cons pe_str (pa_cons pe_str (pa_cons pe_str pa_nil)))) (pe_u h_law_draw hr rfl (g_law_draw T) (pa_cons (pv 0) (pa_cons pe_int pa_nil))) (fun _ _ => rfl))))
      pss_nil)
      (pss_cons (ps_if (PW.pt (pw_and (pt_cmpR op_eq (pv 1) pe_str (nomark _)) (pw_and1 (pt_cmpR op_ne (pv 2) pe_str (nomark _)))))
      (pss_one (ps_ret pe_str))
      pss_nil)
      (pss_one (ps_ret pe_str))))))), ?_⟩
    refine ⟨_, rfl, bx, 9, rfl, by decide, hb, fun i H1 hD1 hi => ⟨rfl, _, rfl, ?_⟩⟩
    -- a word out of a list
    have go : ∀ (ws : List V) (m : Int) (hm : 0 < m) (hw : ∀ j : Nat, (j : Int) < m → ∃ t : Two, atI ws (j : Int) = some (.str t.w)) (hl : ws.length ≤ 100), ws.length ≤ sizeLine ∧ ∀ p, H1 p = none → tCall sp_law_draw [] E0 (tCons (tVar 0) (tCons (tC (.int m)) tNil)) [some (.ref bx.bx), some (.str w1), some (.str w2)] (upd H1 p (.lst ws)) (fun y H2 => rIx K (.ref p) y H2 Q) := by
      intro ws m hm hw hl
      refine ⟨szl (by omega), fun p hp => ?_⟩
      have s1 := same_new (o := HO.lst ws) hp
      have d1 := hD1.same s1
      refine ⟨_, rfl, bx, m, rfl, hm, d1.box, fun j H2 hD2 hj => ?_⟩
      obtain ⟨t, ht⟩ := hw j hj
      exact rixL (sqN (hD2.at (hD1.box.ne hp) upd_same)) ht (k t H2 (d1.trans hD2))
    have g6 := go [V.str "same", .str "less", .str "in", .str "contains", .str "and", .str "or"] 6 (by decide) (fun j hj => pair6 hj) (by decide)
    have g3 := go [V.str "and", .str "or", .str "same"] 3 (by decide) (fun j hj => pair3 hj) (by decide)
    have g2 := go [V.str "less", .str "same"] 2 (by decide) (fun j hj => pair2 hj) (by decide)
    have gI := go [V.str "in", .str "in", .str "same"] 3 (by decide) (fun j hj => pairI hj) (by decide)
    refine ifB (fun _ => g6) (fun _ => ?_)
    -- the third test on
    have last : tSeq (tIfS (tAnd (tTest (tOp rEq (tVar 1) (tC (.str "s")))) (tTest (tOp rNe (tVar 2) (tC (.str "s"))))) (tRet (tC (.str "contains"))) tNext) (tRet (tC (.str "same"))) { nx := fun _ H' => Q .non H', rt := Q } [some (.ref bx.bx), some (.str w1), some (.str w2)] H1 := by
      refine ⟨_, rfl, rfl, _, rfl, ifB (fun _ => ⟨_, rfl, rfl, _, rfl, ifB (fun _ => k .contains H1 hD1) (fun _ => k .same H1 hD1)⟩) (fun _ => ifF rfl (k .same H1 hD1))⟩
    have l4 : tSeq (tIfS (tAnd (tTest (tOp rEq (tVar 1) (tC (.str "e")))) (tOr (tTest (tOp rEq (tVar 2) (tC (.str "e")))) (tTest (tOp rEq (tVar 2) (tC (.str "s")))))) (tRet (tOp (rIx K) (tLst (tCons (tC (.str "in")) (tCons (tC (.str "in")) (tCons (tC (.str "same")) tNil)))) (tCall sp_law_draw [] E0 (tCons (tVar 0) (tCons (tC (.int 3)) tNil))))) tNext) (tSeq (tIfS (tAnd (tTest (tOp rEq (tVar 1) (tC (.str "s")))) (tTest (tOp rNe (tVar 2) (tC (.str "s"))))) (tRet (tC (.str "contains"))) tNext) (tRet (tC (.str "same")))) { nx := fun _ H' => Q .non H', rt := Q } [some (.ref bx.bx), some (.str w1), some (.str w2)] H1 := by
      refine ⟨_, rfl, rfl, _, rfl, ifB (fun _ => ⟨_, rfl, rfl, _, rfl, ifB (fun _ => ifT rfl gI) (fun _ => ⟨_, rfl, rfl, _, rfl, ifB (fun _ => gI) (fun _ => last)⟩)⟩) (fun _ => ifF rfl last)⟩
    have l3 : tSeq (tIfS (tAnd (tTest (tOp rEq (tVar 1) (tC (.str "n")))) (tTest (tOp rEq (tVar 2) (tC (.str "n"))))) (tRet (tOp (rIx K) (tLst (tCons (tC (.str "less")) (tCons (tC (.str "same")) tNil))) (tCall sp_law_draw [] E0 (tCons (tVar 0) (tCons (tC (.int 2)) tNil))))) tNext) (tSeq (tIfS (tAnd (tTest (tOp rEq (tVar 1) (tC (.str "e")))) (tOr (tTest (tOp rEq (tVar 2) (tC (.str "e")))) (tTest (tOp rEq (tVar 2) (tC (.str "s")))))) (tRet (tOp (rIx K) (tLst (tCons (tC (.str "in")) (tCons (tC (.str "in")) (tCons (tC (.str "same")) tNil)))) (tCall sp_law_draw [] E0 (tCons (tVar 0) (tCons (tC (.int 3)) tNil))))) tNext) (tSeq (tIfS (tAnd (tTest (tOp rEq (tVar 1) (tC (.str "s")))) (tTest (tOp rNe (tVar 2) (tC (.str "s"))))) (tRet (tC (.str "contains"))) tNext) (tRet (tC (.str "same"))))) { nx := fun _ H' => Q .non H', rt := Q } [some (.ref bx.bx), some (.str w1), some (.str w2)] H1 := by
      refine ⟨_, rfl, rfl, _, rfl, ifB (fun _ => ⟨_, rfl, rfl, _, rfl, ifB (fun _ => g2) (fun _ => l4)⟩) (fun _ => ifF rfl l4)⟩
    exact ⟨_, rfl, rfl, _, rfl, ifB (fun _ => ⟨_, rfl, rfl, _, rfl, ifB (fun _ => g3) (fun _ => l3)⟩) (fun _ => ifF rfl l3)⟩
theorem ok_law_kinds (T : Top w K mg) : O_law_kinds P w K mg base := by
  refine mk_ok (f_law_kinds T) sc_law_kinds rfl rfl (fun _ _ _ _ _ _ us hl => match us, hl with | [_], _ => rfl) (fun vs H Q E h => ?_) (fun f cdv A outer s H vs Q E hr h => ?_)
  · obtain ⟨ua, us, rfl, _⟩ := h
    rfl
  · obtain ⟨ua, us, rfl, hu, huo, hun, hul, k⟩ := h
    have sc := sc_law_kinds
    refine ⟨_, (pss_cons (ps_set (i := 1) sc.nd rfl (Or.inl rfl) (pe_lst pa_nil))
      (pss_cons (ps_for PassesOwn.never rfl (pi_list (pv 0)) (pg_name (i := 2) sc.nd rfl (Or.inl rfl))
      (pss_one (ps_if (pt_cmpR op_notIn_seq (pe_ix ix_seq (pe_split (pv 2) pe_str) pe_int (fun _ _ => rfl)) (pv 1) rfl)
        (pss_one (ps_expr (pe_bm PySem.F.plainAttrs_list PySem.F.slot_list_append PySem.F.type_list_append mt_append (pv 1) (pa_cons (pe_ix ix_seq (pe_split (pv 2) pe_str) pe_int (fun _ _ => rfl)) pa_nil))))
        pss_nil)))
      (pss_one (ps_ret (pv 1))))), ?_⟩
    refine ⟨Nat.zero_le _, fun L hL => ⟨_, rfl, ua, rfl, ⟨_, sqL_same (same_new hL) hu⟩, for_it walk_list (fun i σ H1 => (∃ o, σ = [some (.ref ua), some (.ref L), o]) ∧ Same H H1 ∧ ∃ ks : List Str, H1 L = some (.lst (ks.map V.str)) ∧ ks.length ≤ i ∧ (0 < i → ks ≠ [])) ⟨⟨_, rfl⟩, same_new hL, [], upd_same, Nat.le_refl _, fun h => absurd h (by decide)⟩ (fun _ _ _ _ h => sqL_same h.2.1 hu) ?_ ?_⟩⟩
    · rintro i x σ H1 H2 hi ⟨⟨o, rfl⟩, hS, ks, hk, hkl, hkn⟩ ⟨rfl, hx⟩
      obtain ⟨u, hui, rfl⟩ := map_at hx
      have hil : i < us.length := by simpa using hi
      have hlu := uid_len (huo u (mem_at hui))
      have hz : u.length ≤ 100000 := by omega
      refine ⟨_, rfl, ⟨_, rfl⟩, _, _, rfl, rfl, rfl, Nat.le_trans (Nat.add_le_add_right hz 2) (by decide), fun p hp0 => ?_⟩
      have hl1 : SqL K (upd H2 p (.lst ((Txt.split u (":" : Str)).map V.str))) p ((splitC 58 u).map V.str) := by rw [← split_col]; exact SqL.of upd_same
      have s1 := same_new (o := .lst ((Txt.split u (":" : Str)).map V.str)) hp0
      cases q : splitC 58 u with
      | nil => exact absurd q (splitC_ne _ _)
      | cons a r =>
        rw [q] at hl1
        refine rixL hl1 (atI_nat (j := 0) rfl) ⟨_, rfl, L, _, rfl, .inl (sqN (s1 _ _ hk)), rfl, flat_strs _, _, rfl, ?_⟩
        show if (!inV (.str a) (ks.map V.str)) = true then _ else _
        rw [inV_strs]
        refine ifB (fun h1 => ?_) (fun h1 => ?_)
        · refine ⟨_, rfl, .inl ⟨rfl, _, sqN (s1 _ _ hk)⟩, _, rfl, ⟨_, rfl⟩, _, _, rfl, rfl, rfl, Nat.le_trans (Nat.add_le_add_right hz 2) (by decide), fun p2 hp2 => ?_⟩
          have hl2 : SqL K (upd (upd H2 p (.lst ((Txt.split u (":" : Str)).map V.str))) p2 (.lst ((Txt.split u (":" : Str)).map V.str))) p2 ((splitC 58 u).map V.str) := by rw [← split_col]; exact SqL.of upd_same
          have s2 := same_new (o := .lst ((Txt.split u (":" : Str)).map V.str)) hp2
          rw [q] at hl2
          have s12 := s1.trans s2
          refine rixL hl2 (atI_nat (j := 0) rfl) ⟨L, _, _, rfl, rfl, s12 _ _ hk, by rw [List.length_map]; exact szlt (by omega), ⟨_, rfl⟩, same_mut (hS.trans s12) hL, ks ++ [a], ?_, ?_, fun _ => by simp⟩
          · rw [upd_same, List.map_append]; rfl
          · rw [List.length_append, List.length_singleton]; omega
        · refine ⟨⟨_, rfl⟩, hS.trans s1, ks, s1 _ _ hk, by omega, fun _ e => ?_⟩
          subst e
          simp at h1
    · rintro σ H1 ⟨⟨o, rfl⟩, hS, ks, hk, hkl, hkn⟩
      refine ⟨_, rfl, k L ks H1 hS hL hk (hkn ?_)⟩
      rw [List.length_map]
      exact List.length_pos_iff.mpr hun
theorem noLs_scals (l : List Scal) : noLs (l.map encScal) = true := noLs_map noL_scal l
theorem ok_law_value (T : Top w K mg) (h_law_draw : O_law_draw P w K mg base) (h_law_scalar : O_law_scalar P w K mg base) (h_law_set : O_law_set P w K mg base) : O_law_value P w K mg base := by
  refine mk_ok (f_law_value T) sc_law_value rfl rfl (fun _ _ _ _ _ _ us hl => match us, hl with | [_, _], _ => rfl) (fun vs H Q E h => ?_) (fun f cdv A outer s H vs Q E hr h => ?_)
  · obtain ⟨bx, ua, us, rfl, _⟩ := h
    rfl
  · obtain ⟨bx, ua, us, rfl, hb, hu, huo, hun, k⟩ := h
    have sc := sc_law_value
    refine ⟨_, (pss_cons (ps_if (pt_cmpR op_gt (pe_u h_law_draw hr rfl (g_law_draw T) (pa_cons (pv 0) (pa_cons pe_int pa_nil))) pe_int (nomark _))
      (pss_one (ps_ret (pe_u h_law_scalar hr rfl (g_law_scalar T) (pa_cons (pv 0) (pa_cons (pv 1) pa_nil)))))
      pss_nil)
      (pss_cons (ps_set (i := 2) sc.nd rfl (Or.inl rfl) (pe_lst pa_nil))
      (pss_cons (ps_for PassesOwn.never rfl (pi_range1 rfl (n_range T) (pa_cons (pe_u h_law_draw hr rfl (g_law_draw T) (pa_cons (pv 0) (pa_cons pe_int pa_nil))) pa_nil)) (pg_name (i := 3) sc.nd rfl (Or.inl rfl))
      (pss_one (ps_expr (pe_bm PySem.F.plainAttrs_list PySem.F.slot_list_append PySem.F.type_list_append mt_append (pv 2) (pa_cons (pe_u h_law_scalar hr rfl (g_law_scalar T) (pa_cons (pv 0) (pa_cons (pv 1) pa_nil))) pa_nil)))))
      (pss_one (ps_ret (pe_u h_law_set hr rfl (g_law_set T) (pa_cons (pv 2) (pa_cons pe_int pa_nil)))))))), ?_⟩
    refine ⟨_, rfl, bx, 4, rfl, by decide, hb, fun i H1 hD1 hi => ⟨_, _, rfl, rfl, _, rfl, ifB (fun _ => ?_) (fun _ => ?_)⟩⟩
    · exact ⟨_, rfl, _, rfl, bx, ua, us, rfl, hD1.box, hD1.strs hb hu, huo, hun, fun v s H2 hD2 hv hs => k v (.sc s) H2 (hD1.trans hD2) hv hs⟩
    · refine ⟨Nat.zero_le _, fun L hL => ?_⟩
      have sL := same_new (o := HO.lst []) hL
      have d1 := hD1.same sL
      have hLb := hD1.box.ne hL
      have hu1 := sqL_same sL (hD1.strs hb hu)
      refine ⟨_, rfl, bx, 11, rfl, by decide, d1.box, fun n H2 hD2 hn => ⟨_, rfl, by omega, by omega, for_it walk_range (fun j σ H3 => (∃ o, σ = [some (.ref bx.bx), some (.ref ua), some (.ref L), o]) ∧ Drawn bx H1 H3 ∧ ∃ ys, ∃ l : List Scal, H3 L = some (.lst ys) ∧ DpAll K H3 ys (l.map encScal) ∧ (∀ s ∈ l, ScalGood s) ∧ l.length = j)
        ⟨⟨_, rfl⟩, (Drawn.of hD1.box sL).trans hD2, [], [], hD2.at hLb upd_same, .nil, (fun s hs => by cases hs), rfl⟩ (fun _ _ _ _ _ => trivial) ?_ ?_⟩⟩
      · rintro j x σ H3 H4 hj ⟨⟨o, rfl⟩, hd, ys, l, hL3, hys, hl, hlen⟩ ⟨rfl, rfl⟩
        have hu3 := hd.strs hD1.box (hD1.strs hb hu)
        refine ⟨_, rfl, .inl ⟨rfl, _, sqN hL3⟩, _, rfl, _, rfl, bx, ua, us, rfl, hd.box, hu3, huo, hun, fun v s H5 hD5 hv hs => ?_⟩
        have hL5 := hD5.at hLb hL3
        have tp := hD5.tps hd.box
        have tp2 := tps_put (o := HO.lst (ys ++ [v])) hL5
        have hjn : j < ((n : Nat) : Int).toNat := hj
        refine ⟨L, ys, v, rfl, rfl, hL5, by rw [enc_len hys, hlen]; exact szlt (by omega), ⟨_, rfl⟩, (hd.trans hD5).put hD1.box hL, _, l ++ [s], upd_same, ?_, ?_, by rw [List.length_append, hlen]; rfl⟩
        · rw [List.map_append]
          exact dpAll_app (dpAll_tps tp2 (noLs_scals _) (dpAll_tps tp (noLs_scals _) hys)) (.cons (dp_tps tp2 (noL_scal _) hv) .nil)
        · intro x hx
          rcases List.mem_append.mp hx with h | h
          · exact hl x h
          · rw [List.mem_singleton.mp h]; exact hs
      · rintro σ H3 ⟨⟨o, rfl⟩, hd, ys, l, hL3, hys, hl, hlen⟩
        exact ⟨_, rfl, .ref L, l, rfl, .lst (sqN hL3) hys, hl, by omega, fun u x H4 hS4 hu4 hx => k u x H4 ((hD1.trans hd).same hS4) hu4 hx⟩
end
end FF
set_option Elab.async false
set_option linter.all false
set_option maxRecDepth 100000
set_option maxHeartbeats 4000000
/-! sorted by a key of the law's own: keys are pairs of a rank and what the rank says -/
namespace FF
open PySem PySem.Spec PyProof.Rows L2
open PySem.W (alike alikeAll keyToks keyToksAll dataLt EachIs SortsAt)
def keyP : Scal → PyData
  | .tr b => .bool b
  | .nu i => .int i
  | .tx z => .str z
  | .en z => .str z
def keyD (s : Scal) : PyData := .tuple [.int (rank s), keyP s]
theorem keyP_alike {s t : Scal} (h : rank s = rank t) : alike (keyP s) (keyP t) = true := by
  cases s <;> cases t <;> first | (simp [keyP, alike]; done) | (simp [rank] at h; done)
theorem keyD_fst {h : Heap} {v : Value} {s t : Scal} {as bs : List Addr} (r1 : Reads h v (keyD s) as) (r2 : Reads h v (keyD t) bs) : rank s = rank t := by
  unfold keyD at r1 r2
  cases r1 with
  | tuple h1 h2 h3 h4 =>
    cases r2 with
    | tuple k1 k2 k3 k4 =>
      rw [h1] at k1; cases k1
      rw [h3] at k3; cases k3
      cases q : (_ : Array Value).toList with
      | nil => rw [q] at h4; cases h4
      | cons x xs =>
        rw [q] at h4 k4
        cases h4 with
        | cons p1 p2 =>
          cases k4 with
          | cons q1 q2 =>
            have := PySem.W.alike_unique _ _ _ _ _ (by simp [alike]) p1 q1
            have := PyData.int.inj this
            omega
theorem keyD_alike {s t : Scal} (h : rank s = rank t) : alike (keyD s) (keyD t) = true := by
  unfold keyD
  simp [alike, alikeAll, keyP_alike h]
theorem keyD_one {h : Heap} {v : Value} {s t : Scal} {as bs : List Addr} (r1 : Reads h v (keyD s) as) (r2 : Reads h v (keyD t) bs) : keyD s = keyD t :=
  PySem.W.alike_unique _ _ _ _ _ (keyD_alike (keyD_fst r1 r2)) r1 r2
/-- the kind of keys in a heap -/
noncomputable def scalKind (h : Heap) : PyProof.Rows.KeyKind where
  toKeyOrd := listOrd itemOrd
  keyOf v := open Classical in if q : ∃ s : Scal, ∃ as, Reads h v (keyD s) as then some (keyToks (keyD q.choose)) else none
  dflt := ([] : List (Int ⊕ List Nat))
theorem scalKind_some {h : Heap} {v : Value} {s : Scal} {as : List Addr} (r : Reads h v (keyD s) as) : (scalKind h).keyOf v = some (keyToks (keyD s)) := by
  have q : ∃ s : Scal, ∃ as, Reads h v (keyD s) as := ⟨s, as, r⟩
  have e : (scalKind h).keyOf v = some (keyToks (keyD q.choose)) := by
    show (open Classical in if q : ∃ s : Scal, ∃ as, Reads h v (keyD s) as then some (keyToks (keyD q.choose)) else none) = _
    rw [dif_pos q]
  obtain ⟨as', h2⟩ := q.choose_spec
  rw [e, keyD_one h2 r]
theorem scalKind_inv {h : Heap} {v : Value} {k : List (Int ⊕ List Nat)} (e : (scalKind h).keyOf v = some k) : ∃ s as, Reads h v (keyD s) as ∧ k = keyToks (keyD s) := by
  by_cases q : ∃ s : Scal, ∃ as, Reads h v (keyD s) as
  · have e' : (scalKind h).keyOf v = some (keyToks (keyD q.choose)) := by
      show (open Classical in if q : ∃ s : Scal, ∃ as, Reads h v (keyD s) as then some (keyToks (keyD q.choose)) else none) = _
      rw [dif_pos q]
    obtain ⟨as', h2⟩ := q.choose_spec
    rw [e'] at e
    exact ⟨_, as', h2, (Option.some.inj e).symm⟩
  · have e' : (scalKind h).keyOf v = none := by
      show (open Classical in if q : ∃ s : Scal, ∃ as, Reads h v (keyD s) as then some (keyToks (keyD q.choose)) else none) = _
      rw [dif_neg q]
      rfl
    rw [e'] at e
    exact absurd e (by simp)
theorem keyP_depth (s : Scal) : (keyP s).depth = 0 := by cases s <;> simp [keyP, PyData.depth]
theorem keyP_ok (s : Scal) : keyP s ≠ .none ∧ ∀ xs, keyP s ≠ .tuple xs := by cases s <;> exact ⟨by simp [keyP], by simp [keyP]⟩
section
variable {prog : Program} {w : World} {A : Around} {s : Shared}
theorem scal_ltAt (hu : A.units + 8 < cLine) : PyProof.Rows.H.LtAt prog w A s (scalKind s.heap) (tuples' true) := by
  intro E x y a b Q ha hb hq
  obtain ⟨p, as, ra, rfl⟩ := scalKind_inv ha
  obtain ⟨q, bs, rb, rfl⟩ := scalKind_inv hb
  have hq' : Q (PyProof.Rows.lexLt itemOrd (keyToks (keyD p)) (keyToks (keyD q))) s := hq
  have hq2 : Q (dataLt (keyD p) (keyD q)) s := hq'
  unfold keyD at ra rb hq2
  rw [PySem.W.dataLt_tuple] at hq2
  cases ra with
  | @tuple l o xs n _ _ h1 h2 h3 h4 =>
    cases rb with
    | @tuple l' o' xs' n' _ _ k1 k2 k3 k4 =>
      have n1 : xs.size = 2 := by simpa using SeqAt.ReadsAll.length _ _ _ h4
      have n2 : xs'.size = 2 := by simpa using SeqAt.ReadsAll.length _ _ _ k4
      refine PySem.W.kat_lt h1 h3 k1 k3 ?_
      rw [n1, n2]
      generalize xs.toList = vs at h4
      generalize xs'.toList = ws at k4
      cases h4 with
      | cons r1 r2 =>
        cases k4 with
        | cons g1 g2 =>
          rw [List.zip_cons_cons]
          have al : alike (.int (rank p)) (.int (rank q)) = true := by simp [alike]
          refine PySem.W.kat_cons (PySem.W.eqAt_alike _ _ A s _ _ _ _ r1 g1 al (by simp [PyData.depth]; omega) prog w _ _ ?_)
          cases hx : PyData.eqv (.int (rank p)) (.int (rank q)) with
          | true =>
            rw [PySem.W.dataLt_all_yes al hx] at hq2
            have hr : rank p = rank q := by
              have : ((rank p : Int)) = rank q := by simpa [PyData.eqv] using hx
              omega
            exact PySem.W.kat_yes (PySem.W.katLex_alike [keyP p] [keyP q] 1 _ _ _ _ r2 g2 (by simp [alikeAll, keyP_alike hr]) (by simp [PyData.depthAll, keyP_depth]; omega) (fun _ hi => absurd hi (by decide)) rfl hq2)
          | false =>
            rw [PySem.W.dataLt_all_no al hx] at hq2
            exact PySem.W.kat_no (PySem.W.oneLt_alike (fun _ xs e => by cases e) r1 g1 al (by simp) (by simp [PyData.depth]; omega) hq2)
theorem scal_sorts {ks : List Value} {l : List Scal} (e : EachIs (fun v d => ∃ as, Reads s.heap v (keyD d) as) ks l) (hu : A.units + 8 < cLine) : SortsAt prog w A s (scalKind s.heap) ks := by
  refine ⟨fun v hv => ?_, tuples' true, scal_ltAt hu, fun h2 E Q hq => ?_⟩
  · obtain ⟨d, hd, as, r⟩ := e.left v hv
    exact ⟨_, scalKind_some r⟩
  · have e' : EachIs (fun v d => ∃ as, Reads s.heap v d as) ks (l.map keyD) := PySem.W.each_map (R := fun v d => ∃ as, Reads s.heap v d as) keyD e
    obtain ⟨fs, t1, t2, t3⟩ := PySem.W.each_katTups e' (fun d hd => by
      obtain ⟨x, _, rfl⟩ := List.mem_map.mp hd
      exact ⟨_, _, rfl⟩)
    refine PySem.W.kat_kind (T := .type "int") t1 (by omega) (fun f hf => ?_) (beq_self_eq_true _) hq
    obtain ⟨x, r, as, m1, m2⟩ := t3 f hf
    obtain ⟨y, _, ey⟩ := List.mem_map.mp m1
    unfold keyD at ey
    cases ey
    exact PySem.W.looks_reads m2
end
/-- the order of the sorted scalars -/
def scalLe (a b : Scal) : Bool := PySem.W.sortLe (listOrd itemOrd) false (fun s => keyToks (keyD s)) a b
theorem scalLe_total : PySem.W.TotalLe scalLe := PySem.W.sortLe_total (listOrd itemOrd) false fun s => keyToks (keyD s)
section
variable {X : Cx}
theorem run_in2 {pins : List (Addr × Obj)} {σ : L2.St} {H : Hp} {s : Shared} {Q : VK} {E' : Value → Shared → Prop} {j : Nat} {f : Addr} {ps : List Str} {sp : Sp} {dvs : List V} {us : List Value} {vs : List V} (hF : FOk X.prog X.w X.K X.mg X.base j f ps dvs sp) (hr : Room j X.A.in1.in1)
    (I : L2.Inv X pins σ H s) (r : Vals vs us) (h : sp (vs ++ dvs) H Q E0) : wpAny (model X.prog X.w) X.A.in1.in1 (call (.ref f) us) (EP X pins σ Q) E' s := by
  obtain ⟨⟨fd, ds, F, hb, hd⟩, kp⟩ := hF
  have r2 : Vals (vs ++ dvs) (us ++ ds) := r.append hd
  have hl : (us ++ ds).length = ps.length := by rw [← r2.length]; exact F.len _ _ _ _ h
  refine wpAny_call (codeAny_mono (F.run X.A.in1.in1 X.stack s H ⟨us, []⟩ (us ++ ds) (vs ++ dvs) Q E0 hr I.env0.in1.in1 (hb s us I.kIn hl) r2 h) fun r s' hq => ?_)
  cases r with
  | error e => exact False.elim hq
  | ok fl =>
    cases fl with
    | ret u => exact I.after hq
    | next => exact False.elim hq
    | brk => exact False.elim hq
    | cont => exact False.elim hq
theorem vals_at : ∀ {xs : List V} {us : List Value} {i : Nat} {u : Value}, Vals xs us → us[i]? = some u → ∃ x, xs[i]? = some x ∧ RelV x u
  | _, _, 0, _, .cons h _, e => by
    simp at e
    subst e
    exact ⟨_, rfl, h⟩
  | _, _, i + 1, u, .cons _ t, e => by
    obtain ⟨x, h1, h2⟩ := vals_at (i := i) (u := u) t (by simpa using e)
    exact ⟨x, by simpa using h1, h2⟩
theorem vals_snoc {xs : List V} {us : List Value} {x : V} {u : Value} (h : Vals xs us) (hx : RelV x u) : Vals (xs ++ [x]) (us ++ [u]) := h.append (.cons hx .nil)
theorem each_vals {K : PySem.W.Frag} {H : Hp} {β : Type} {enc : β → PyData} : ∀ {us : List Value} {l : List β}, EachIs (fun v s => ∃ x, RelV x v ∧ Dp K H x (enc s)) us l → ∃ ys, Vals ys us ∧ DpAll K H ys (l.map enc)
  | _, _, .nil => ⟨[], .nil, .nil⟩
  | _, _, .cons ⟨x, h1, h2⟩ t => by
    obtain ⟨ys, q1, q2⟩ := each_vals t
    exact ⟨x :: ys, .cons h1 q1, .cons h2 q2⟩
theorem vals_each {K : PySem.W.Frag} {H : Hp} {β : Type} {enc : β → PyData} : ∀ {xs : List V} {us : List Value} {l : List β}, Vals xs us → DpAll K H xs (l.map enc) → EachIs (fun v s => ∃ x, RelV x v ∧ Dp K H x (enc s)) us l
  | _, _, [], hv, hd => by
    cases hd
    cases hv
    exact .nil
  | _, _, b :: l, hv, hd => by
    cases hd with
    | cons d1 d2 =>
      cases hv with
      | cons v1 v2 => exact .cons ⟨_, v1, d1⟩ (vals_each v2 d2)
/-- the sort, behind the copy: a is the list, empty while it runs, kS holds the keys -/
theorem keyF_rest {pins : List (Addr × Obj)} {σ : L2.St} {H : Hp} {s : Shared} {a kS f : Addr} {e1 : Nat} {j : Nat} {ps : List Str} {xs : List V} {vs : List Value} {l : List Scal} {P : PySem.Fin → Shared → Prop} {E : Value → Shared → Prop}
    (hF : FOk X.prog X.w X.K X.mg X.base j f ps [] (sp_law_key X.K)) (hr : Room j X.A.in1.in1) (I : L2.Inv X pins σ H s) (fa : FpOk X pins H a) (fk : FpOk X pins H kS) (hka : kS ≠ a)
    (na : s.heap.get? a = some (PyProof.Rows.seqObj "list" #[] e1)) (nk : s.heap.get? kS = some (PyProof.Rows.seqObj "list" #[] 0)) (rv : Vals xs vs) (hx : DpAll X.K H xs (l.map encScal)) (hZ : vs.length ≤ sizeLine)
    (q : ∀ s' ys H', L2.Inv X pins σ H' s' → Same H H' → H' a = some (.lst ys) → DpAll X.K H' ys ((l.mergeSort scalLe).map encScal) → P (.done (.ret .none)) s') :
    wpAny (model X.prog X.w) X.A.in1.in1 (ksk_rest a (.ref f) false vs.toArray e1 (.ref kS)) P E s := by
  have hxl : xs.length = l.length := enc_len hx
  have hvl := rv.length
  have hu : X.A.in1.in1.units + 8 < cLine := by have := hr.un; omega
  have notcell : ∀ (ys : Array Value) (n : Nat) (v : Option Value), (PyProof.Rows.seqObj "list" ys n).data ≠ .cell v := fun ys n v e => by cases e
  have pinA : ∀ {H' : Hp} {s' : Shared}, s'.heap.get? a = some (PyProof.Rows.seqObj "list" #[] e1) → H' a = none → s'.heap.get? a = some (PyProof.Rows.seqObj "list" #[] e1) ∧ H' a = none ∧ a ≠ X.env.locals ∧ a ∉ X.fs ∧ ∀ v, (PyProof.Rows.seqObj "list" #[] e1).data ≠ .cell v :=
    fun h1 h2 => ⟨h1, h2, fa.2.1, fa.2.2.1, notcell _ _⟩
  unfold ksk_rest
  refine wpAny_bind (wpAny_rule ?_)
  rw [List.forIn_toArray]
  refine wpAny_bind (PyProof.Rows.ksk_fold (fun i s' => ∃ H' kA e ks, L2.Inv X ((kS, PyProof.Rows.seqObj "list" kA e) :: (a, PyProof.Rows.seqObj "list" #[] e1) :: pins) σ H' s' ∧ Same H H' ∧ Vals ks kA.toList ∧ DpAll X.K H' ks ((l.take i).map keyD)) vs 0 s
    ⟨H, #[], 0, [], I.pins_of (fun p hp => ?_), Same.refl _, .nil, .nil⟩ ?step ?done)
  · rcases List.mem_cons.mp hp with rfl | hp
    · exact ⟨nk, fk.1, fk.2.1, fk.2.2.1, notcell _ _⟩
    · rcases List.mem_cons.mp hp with rfl | hp
      · exact pinA na fa.1
      · exact I.pin p (List.mem_append_right _ hp)
  case step =>
    rintro i v s' hv ⟨H', kA, e, ks, I', hS, hks, hd⟩
    rw [Nat.zero_add] at hd ⊢
    obtain ⟨x, hxi, rx⟩ := vals_at rv hv
    obtain ⟨d, hdi, hdx⟩ := dpAll_at hx hxi
    obtain ⟨sc, hsc, rfl⟩ := map_at hdi
    have hil : i < vs.length := (List.getElem?_eq_some_iff.mp hv).1
    have hkl : ks.length = i := by
      have h1 := enc_len hd
      rw [List.length_take] at h1
      omega
    have hkA : kA.size = i := by
      have h1 : ks.length = kA.toList.length := hks.length
      have h2 : kA.toList.length = kA.size := Array.length_toList
      omega
    refine wpAny_bind (wpAny_attempt (wpAny_mono (run_in2 (us := [v]) (vs := [x]) (Q := fun u H'' => Same H' H'' ∧ Dp X.K H'' u (keyD sc)) hF hr I' (.cons rx .nil) ⟨x, sc, rfl, dp_same hS hdx, fun u H'' hS2 hu => ⟨hS2, by cases sc <;> exact hu⟩⟩) (fun w s'' he => ?_) fun _ _ hF => hF))
    obtain ⟨u, H'', I2, ru, hS2, hu⟩ := he
    try dsimp only
    have pk := I2.pin _ (List.mem_append_right _ (List.mem_cons_self ..))
    have pa := I2.pin _ (List.mem_append_right _ (List.mem_cons_of_mem _ (List.mem_cons_self ..)))
    have nk2 : s''.heap.get? kS = some (PyProof.Rows.seqObj "list" kA e) := pk.1
    have na2 : s''.heap.get? a = some (PyProof.Rows.seqObj "list" #[] e1) := pa.1
    have s1 := Heap.SameBut.update s''.heap kS (Obj.mapSeq (·.push w))
    obtain ⟨c2, hc2⟩ : ∃ c2, (s''.heap.update kS (Obj.mapSeq (·.push w))).get? kS = some (PyProof.Rows.seqObj "list" (kA.push w) c2) := ⟨_, get?_update_seq nk2 (·.push w)⟩
    refine wpAny_bind (listUpdate_at nk2 rfl ?_ (by omega) (by rw [Array.size_push]; omega))
    have I3 : L2.Inv X pins σ H'' s'' := I2.pins_of fun p hp => I2.pin p (List.mem_append_right _ (List.mem_cons_of_mem _ (List.mem_cons_of_mem _ hp)))
    have I4 : L2.Inv X pins σ H'' { s'' with heap := s''.heap.update kS (Obj.mapSeq (·.push w)), toks := s''.toks } := I3.turned (it := kS) (fun b o hb hbo => (s1.2 b hb).trans hbo) pk.2.1 fk.2.1 fk.2.2.2.1 fk.2.2.2.2.1 fk.2.2.2.2.2
    refine wpAny_pure ⟨rfl, H'', kA.push w, c2, ks ++ [u], I4.pins_of (fun p hp => ?_), hS.trans hS2, ?_, ?_⟩
    · rcases List.mem_cons.mp hp with rfl | hp
      · exact ⟨hc2, pk.2.1, fk.2.1, fk.2.2.1, notcell _ _⟩
      · rcases List.mem_cons.mp hp with rfl | hp
        · exact pinA ((s1.2 a hka.symm).trans na2) pa.2.1
        · exact I4.pin p (List.mem_append_right _ hp)
    · rw [Array.toList_push]
      exact vals_snoc hks ru
    · rw [List.take_add_one, hsc, List.map_append]
      exact dpAll_app (dpAll_same hS2 hd) (.cons hu .nil)
  case done =>
    rintro s' ⟨H', kA, e, ks, I', hS, hks, hd⟩
    have e3 : l.take (0 + vs.length) = l := List.take_of_length_le (by omega)
    rw [e3] at hd
    have pk := I'.pin _ (List.mem_append_right _ (List.mem_cons_self ..))
    have pa := I'.pin _ (List.mem_append_right _ (List.mem_cons_of_mem _ (List.mem_cons_self ..)))
    have nk2 : s'.heap.get? kS = some (PyProof.Rows.seqObj "list" kA e) := pk.1
    have na2 : s'.heap.get? a = some (PyProof.Rows.seqObj "list" #[] e1) := pa.1
    have hkA : kA.size = vs.length := by
      have h1 : ks.length = kA.toList.length := hks.length
      have h2 : ks.length = l.length := enc_len hd
      have h3 : kA.toList.length = kA.size := Array.length_toList
      omega
    try dsimp only
    refine wpAny_bind (listItems_at nk2 rfl ?_)
    obtain ⟨G1, g1, g2⟩ := restrict s'.heap fun b => decide (b ≠ kS)
    obtain ⟨G, g3, g4⟩ := restrict G1 fun b => decide (b ≠ a)
    have I3 : L2.Inv X pins σ H' s' := I'.pins_of fun p hp => I'.pin p (List.mem_append_right _ (List.mem_cons_of_mem _ (List.mem_cons_of_mem _ hp)))
    have I4 : L2.Inv X pins σ H' { s' with heap := G1, toks := s'.toks } := I3.turned (it := kS) (fun b o hb hbo => (g1 b (by simpa using hb)).trans hbo) pk.2.1 fk.2.1 fk.2.2.2.1 fk.2.2.2.2.1 fk.2.2.2.2.2
    have I5 : L2.Inv X pins σ H' { s' with heap := G, toks := s'.toks } := I4.turned (s := { s' with heap := G1, toks := s'.toks }) (it := a) (fun b o hb hbo => (g3 b (by simpa using hb)).trans hbo) pa.2.1 fa.2.1 fa.2.2.2.1 fa.2.2.2.2.1 fa.2.2.2.2.2
    have Gk : G.get? kS = none := (g3 kS (by simpa using hka)).trans (g2 kS (by simp))
    have Ga : G.get? a = none := g4 a (by simp)
    have up : ∀ b o, G.get? b = some o → s'.heap.get? b = some o := fun b o hb => by
      have hba : b ≠ a := fun z => by rw [z, Ga] at hb; cases hb
      have hbk : b ≠ kS := fun z => by rw [z, Gk] at hb; cases hb
      rw [g3 b (by simpa using hba), g1 b (by simpa using hbk)] at hb
      exact hb
    have hrd : EachIs (fun v d => ∃ as, Reads s'.heap v (keyD d) as) kA.toList l := (vals_each hks hd).mono fun v d ⟨x, r1, r2⟩ => Dp.reads I3 _ x v r2 r1
    refine PySem.W.keyH_end (κ := scalKind s'.heap) (h₁ := G) (fun b o _ hb => up b o hb) Gk nk2 na2 hka (scal_sorts hrd hu) hkA hZ fun h3 tk3 c k3 n3 => ?_
    have hout : EachIs (fun v s => ∃ x, RelV x v ∧ Dp X.K H' x (encScal s)) (PySem.W.sortVals (scalKind s'.heap) false kA.toList vs) (l.mergeSort scalLe) :=
      PySem.W.sortVals_each (κ := scalKind s'.heap) (rev := false) (fun s => keyToks (keyD s)) (vals_each rv (dpAll_same hS hx)) (hrd.mono fun v d ⟨as, r⟩ => scalKind_some r)
    obtain ⟨ys, y1, y2⟩ := each_vals hout
    have hyl : ys.length ≤ sizeLine := by
      rw [y1.length, PySem.W.sortVals_length false (by rw [Array.length_toList]; exact hkA)]
      exact hZ
    have I6 : L2.Inv X pins σ (upd H' a (.lst ys)) { s' with heap := h3, toks := tk3 } := I5.laidN (fun b u hb => k3 b u (fun z => by
      have hb' : G.get? b = some u := hb
      rw [z, Ga] at hb'; cases hb') hb) Ga pa.2.1 ⟨hyl, _, c, y1, n3⟩
    exact q _ ys _ I6 (same_mut hS fa.1) upd_same (dpAll_same (same_new pa.2.1) y2)
def rSortF (K : PySem.W.Frag) (f : Addr) : List V → List V → Hp → VK → Prop := fun vs zs H Q => ∃ (a : Addr) (xs : List V) (l : List Scal), vs = [V.ref a] ∧ zs = [V.ref f] ∧ SqL K H a xs ∧ DpAll K H xs (l.map encScal) ∧
  ∀ D ys H', Same H H' → H D = none → H' D = some (.lst ys) → DpAll K H' ys ((l.mergeSort scalLe).map encScal) → Q (.ref D) H'
/-- sorted(xs, key=f) -/
theorem cr_sortKeyF {j : Nat} {f : Addr} {ps : List Str} (hF : FOk X.prog X.w X.K X.mg X.base j f ps [] (sp_law_key X.K)) (hr : Room j X.A.in1.in1) : CallRK X (.builtin "sorted") [Str.ofString "key"] (rSortF X.K f) := by
  intro pins s σ H vs zs us ws Q I r rz h
  obtain ⟨l0, xs, l, rfl, rfl, hs, hx, q⟩ := h
  obtain rfl := Vals.ref1 r
  obtain ⟨w1, rfl, e1⟩ := vals1 rz
  obtain rfl : w1 = Value.ref f := e1
  obtain ⟨its, rv, hl, hz⟩ := I.list hs
  have hZ : its.length ≤ sizeLine := by rw [← rv.length]; exact hz
  refine PySem.W.sorted_of_sort (vs := its) hl.isList hZ (PyProof.Rows.ksk_s1 _ _) (fun _ => PyProof.Rows.ksk_l1 _ _) fun E' => ?_
  show wpAny _ _ (Builtin.«list.sort» ⟨[.ref (s.heap.objs.size + 1)], [(Str.ofString "key", .ref f)]⟩) _ _ _
  rw [PyProof.Rows.ksk_t1]
  have ho := PySem.W.copyHeap_at s.heap its
  have hcs : (PySem.W.copyHeap s.heap its).objs.size = s.heap.objs.size + 2 := by
    unfold PySem.W.copyHeap
    rw [size_push', Heap.size_update, size_push']
  obtain ⟨e1, ho1⟩ : ∃ e1, ((PySem.W.copyHeap s.heap its).update (s.heap.objs.size + 1) (Obj.mapSeq fun _ => (#[] : Array Value))).get? (s.heap.objs.size + 1) = some (PyProof.Rows.seqObj "list" #[] e1) := ⟨_, get?_update_seq ho fun _ => #[]⟩
  have hkS : (((PySem.W.copyHeap s.heap its).update (s.heap.objs.size + 1) (Obj.mapSeq fun _ => (#[] : Array Value))).push (PyProof.Rows.seqObj "tuple" its.toArray 0)).objs.size = s.heap.objs.size + 3 := by rw [size_push', Heap.size_update, hcs]
  unfold PyProof.Rows.ksk_tree
  refine wpAny_bind (listItems_at ho rfl ?_)
  refine wpAny_bind (listUpdate_at ho rfl ?_ (by rw [List.size_toArray]; exact hZ) (Nat.zero_le _))
  refine wpAny_bind (seqEpoch_at ho1 rfl ?_)
  refine wpAny_bind (wpAny_newTuple ?_ (by show its.length ≤ _; exact hZ))
  refine wpAny_bind (wpAny_newList ?_ (Nat.zero_le _))
  refine wpAny_holding ?_
  have keep : ∀ b o, s.heap.get? b = some o → (PySem.W.sortingHeap (PySem.W.copyHeap s.heap its) (s.heap.objs.size + 1) its).get? b = some o := fun b o hb => PySem.W.sorting_copy_old hb
  have I1 : L2.Inv X pins σ H { s with heap := PySem.W.sortingHeap (PySem.W.copyHeap s.heap its) (s.heap.objs.size + 1) its, toks := s.toks } := I.kept keep
  have fa : FpOk X pins H (s.heap.objs.size + 1) := I.fpOk (Nat.le_succ _) (I.hok.fresh (Nat.le_succ _))
  have fk : FpOk X pins H (s.heap.objs.size + 3) := I.fpOk (Nat.le_add_right _ _) (I.hok.fresh (Nat.le_add_right _ _))
  rw [hkS]
  refine keyF_rest (s := { s with heap := PySem.W.sortingHeap (PySem.W.copyHeap s.heap its) (s.heap.objs.size + 1) its, toks := s.toks }) (kS := s.heap.objs.size + 3) hF hr I1 fa fk (show s.heap.objs.size + 3 ≠ s.heap.objs.size + 1 from fun z => by simp at z) ?_ ?_ rv hx hZ fun s' ys H' I' hS hD hy => ⟨rfl, .ref _, H', I', rfl, q _ ys H' hS fa.1 hD hy⟩
  · exact Heap.get?_push_of_some _ (Heap.get?_push_of_some _ ho1)
  · show (Heap.push _ _).get? _ = _
    rw [← hkS]
    exact Heap.get?_push_size _ rfl
end
end FF
set_option Elab.async false
set_option linter.all false
set_option maxRecDepth 100000
set_option maxHeartbeats 4000000
namespace FF
open PySem PySem.Spec PyProof.Rows L2
local macro_rules | `(tactic| walk_at "r") => `(tactic| repeat (first
   | refine ⟨_, rfl, ?_⟩
   | refine ⟨_, _, rfl, rfl, ?_⟩
   | refine ⟨rfl, ?_⟩
   | refine rixT (by assumption) rfl ?_
   | refine rixL (by assumption) rfl ?_
   | refine ifT (by decide +kernel) ?_
   | refine ifF (by decide +kernel) ?_))
section
variable {P : Program} {w : World} {K : PySem.W.Frag} {mg : Str → Option Value} {base : Heap}

theorem scalGood_ok {s : Scal} (h : ScalGood s) : ScalOk s := by cases s <;> first | exact h | trivial
theorem valGood_ok {x : Val} (h : ValGood x) : ValOk x := by
  cases x with
  | sc s => exact scalGood_ok h
  | st l => exact fun s hs => scalGood_ok (h.2.1 s hs)
theorem ok_law_leaf (T : Top w K mg) (h_law_draw : O_law_draw P w K mg base) (h_law_set : O_law_set P w K mg base) (h_law_value : O_law_value P w K mg base) : O_law_leaf P w K mg base := by
  refine mk_ok (f_law_leaf T) sc_law_leaf rfl rfl (fun _ _ _ _ _ _ us hl => match us, hl with | [_, _, _, _], _ => rfl) (fun vs H Q E h => ?_) (fun f cdv A outer s H vs Q E hr h => ?_)
  · obtain ⟨bx, ua, na, us, ns, wd, rfl, _⟩ := h
    rfl
  · obtain ⟨bx, ua, na, us, ns, wd, rfl, hb, hu, hn, huo, hun, hno, hnn, k⟩ := h
    have sc := sc_law_leaf
    refine ⟨_, (pss_cons (ps_set (i := 4) sc.nd rfl (Or.inl rfl) (pe_u h_law_draw hr rfl (g_law_draw T) (pa_cons (pv 0) (pa_cons pe_int pa_nil))))
      (pss_cons (ps_if (pt_cmpR op_eq (pv 4) pe_int (nomark _))
      (pss_one (ps_ret (pe_tup (pa_cons pe_str (pa_cons (pe_ix ix_seq (pv 3) (pe_u h_law_draw hr rfl (g_law_draw T) (pa_cons (pv 0) (pa_cons (pe_callB call_len (by rfl) (n_len T) PySem.boot_len (pa_cons (pv 3) pa_nil)) pa_nil))) (fun _ _ => rfl)) pa_nil)))))
      pss_nil)
      (pss_cons (ps_if (pt_cmpR op_eq (pv 1) pe_str (nomark _))
      (pss_one (ps_ret (pe_ix ix_seq (pe_lst (pa_cons (pe_tup (pa_cons pe_str pa_nil)) (pa_cons (pe_tup (pa_cons pe_str pa_nil)) (pa_cons (pe_tup (pa_cons pe_str pa_nil)) (pa_cons (pe_tup (pa_cons pe_str (pa_cons (pe_tup (pa_cons pe_str (pa_cons (pe_ix ix_seq (pv 2) (pe_u h_law_draw hr rfl (g_law_draw T) (pa_cons (pv 0) (pa_cons (pe_callB call_len (by rfl) (n_len T) PySem.boot_len (pa_cons (pv 2) pa_nil)) pa_nil))) (fun _ _ => rfl)) pa_nil))) pa_nil))) pa_nil))))) (pe_u h_law_draw hr rfl (g_law_draw T) (pa_cons (pv 0) (pa_cons pe_int pa_nil))) (fun _ _ => rfl))))
      pss_nil)
      (pss_cons (ps_if (pt_cmpR op_eq (pv 1) pe_str (nomark _))
      (pss_cons (ps_if (pt_cmpR op_le (pv 4) pe_int (nomark _))
        (pss_one (ps_ret (pe_tup (pa_cons pe_str (pa_cons (pe_ix ix_seq (pv 3) (pe_u h_law_draw hr rfl (g_law_draw T) (pa_cons (pv 0) (pa_cons (pe_callB call_len (by rfl) (n_len T) PySem.boot_len (pa_cons (pv 3) pa_nil)) pa_nil))) (fun _ _ => rfl)) pa_nil)))))
        pss_nil)
        (pss_one (ps_ret (pe_tup (pa_cons pe_str (pa_cons (pe_tup (pa_cons pe_str (pa_cons (pe_cmpR op_eq (pe_u h_law_draw hr rfl (g_law_draw T) (pa_cons (pv 0) (pa_cons pe_int pa_nil))) pe_int (nomark _)) pa_nil))) pa_nil))))))
      pss_nil)
      (pss_cons (ps_if (pt_cmpR op_eq (pv 1) pe_str (nomark _))
      (pss_one (ps_ret (pe_tup (pa_cons pe_str (pa_cons (pe_tup (pa_cons pe_str (pa_cons (pe_op op_sub (pe_u h_law_draw hr rfl (g_law_draw T) (pa_cons (pv 0) (pa_cons pe_int pa_nil))) pe_int) pa_nil))) pa_nil)))))
      pss_nil)
      (pss_cons (ps_if (pt_cmpR op_eq (pv 1) pe_str (nomark _))
      (pss_cons (ps_set (i := 5) sc.nd rfl (Or.inl rfl) (pe_lst pa_nil))
        (pss_cons (ps_for PassesOwn.never rfl (pi_range1 rfl (n_range T) (pa_cons (pe_u h_law_draw hr rfl (g_law_draw T) (pa_cons (pv 0) (pa_cons pe_int pa_nil))) pa_nil)) (pg_name (i := 6) sc.nd rfl (Or.inl rfl))
        (pss_one (ps_expr (pe_bm PySem.F.plainAttrs_list PySem.F.slot_list_append PySem.F.type_list_append mt_append (pv 5) (pa_cons (pe_tup (pa_cons pe_str (pa_cons (pe_ix ix_seq (pv 2) (pe_u h_law_draw hr rfl (g_law_draw T) (pa_cons (pv 0) (pa_cons (pe_callB call_len (by rfl) (n_len T) PySem.boot_len (pa_cons (pv 2) pa_nil)) pa_nil))) (fun _ _ => rfl)) pa_nil))) pa_nil)))))
        (pss_one (ps_ret (pe_tup (pa_cons pe_str (pa_cons (pe_u h_law_set hr rfl (g_law_set T) (pa_cons (pv 5) (pa_cons pe_int pa_nil))) pa_nil)))))))
      pss_nil)
      (pss_one (ps_ret (pe_tup (pa_cons pe_str (pa_cons (pe_u h_law_value hr rfl (g_law_value T) (pa_cons (pv 0) (pa_cons (pv 2) pa_nil))) pa_nil))))))))))), ?_⟩
    refine ⟨_, rfl, bx, 6, rfl, by decide, hb, fun i H1 hD1 hi => ?_⟩
    have hu1 := hD1.strs hb hu
    have hn1 := hD1.strs hb hn
    have two : 2 ≤ sizeLine := by decide
    have one : 1 ≤ sizeLine := by decide
    -- a name is drawn
    have named : ∀ (z : Str) (nd : Str → Node), (∀ n, encNode (nd n) = .tuple [.str z, .str n]) → (∀ n, ops (nd n) = []) → (∀ n, isName n = true → NodeOk (nd n)) → (∀ n x, nd n ≠ Node.value x) →
        tRet (tTup (tCons (tC (.str z)) (tCons (tOp (rIx K) (tVar 3) (tCall sp_law_draw [] E0 (tCons (tVar 0) (tCons (tCB (fun xs H Q => ∃ x n, xs = [x] ∧ LenV K x H n ∧ Q (.int n) H) (tCons (tVar 3) tNil)) tNil)))) tNil))) { nx := fun _ H' => Q .non H', rt := Q } [some (.ref bx.bx), some (.str wd), some (.ref ua), some (.ref na), some (.int (i : Int)), none, none] H1 := by
      intro z nd e1 e2 e3 e4
      refine ⟨_, rfl, _, rfl, _, rfl, _, _, rfl, lenL hn1, bx, _, rfl, pick hnn, hD1.box, fun j H2 hD2 hj => ?_⟩
      obtain ⟨n, hnm, hna⟩ := pick_at hj
      refine rixL (hD2.strs hD1.box hn1) hna ⟨two, fun p hp => k _ (nd n) _ ((hD1.trans hD2).same (same_new hp)) ?_ (e2 n) (e3 n (hno n hnm)) fun x hx => absurd hx (e4 n x)⟩
      rw [e1]
      exact dp_new hp (.cons (.str _) (.cons (.str _) .nil))
    have val : ∀ {x : Val} {v : V} {H2 : Hp}, Drawn bx H H2 → Dp K H2 v (encVal x) → ValGood x → 2 ≤ sizeLine ∧ ∀ p, H2 p = none → Q (.ref p) (upd H2 p (.tup [.str "value", v])) := fun {x v H2} hd hv hx =>
      ⟨two, fun p hp => k _ (.value x) _ (hd.same (same_new hp)) (dp_new hp (.cons (.str _) (.cons hv .nil))) rfl (valGood_ok hx) fun y hy => by cases hy; exact hx⟩
    refine ⟨_, rfl, rfl, _, rfl, ifB (fun _ => named "context" .ctx (fun _ => rfl) (fun _ => rfl) (fun _ h => h) (fun _ _ h => by cases h)) (fun _ => ?_)⟩
    refine ⟨_, rfl, rfl, _, rfl, ifB (fun _ => ?_) (fun _ => ?_)⟩
    · refine ⟨one, fun p1 hp1 => ⟨one, fun p2 hp2 => ⟨one, fun p3 hp3 => ?_⟩⟩⟩
      have s1 := same_new (o := HO.tup [V.str "principal"]) hp1
      have s2 := same_new (o := HO.tup [V.str "action"]) hp2
      have s3 := same_new (o := HO.tup [V.str "resource"]) hp3
      have q1 := dp_new (K := K) (ds := [.str "principal"]) hp1 (.cons (.str _) .nil)
      have q2 := dp_new (K := K) (ds := [.str "action"]) hp2 (.cons (.str _) .nil)
      have q3 := dp_new (K := K) (ds := [.str "resource"]) hp3 (.cons (.str _) .nil)
      have s13 := s1.trans (s2.trans s3)
      have d3 := hD1.same s13
      have hu3 := sqL_same s13 hu1
      refine ⟨_, rfl, _, rfl, _, rfl, _, _, rfl, lenL hu3, bx, _, rfl, pick hun, d3.box, fun j H2 hD2 hj => ?_⟩
      obtain ⟨u, hum, hua⟩ := pick_at hj
      have tp := hD2.tps d3.box
      refine rixL (hD2.strs d3.box hu3) hua ⟨two, fun p4 hp4 => ⟨two, fun p5 hp5 => ⟨by show 4 ≤ sizeLine; decide, fun L hL => ?_⟩⟩⟩
      have s4 := same_new (o := HO.tup [V.str "entity", .str u]) hp4
      have s5 := same_new (o := HO.tup [V.str "value", .ref p4]) hp5
      have s6 := same_new (o := HO.lst [V.ref p1, .ref p2, .ref p3, .ref p5]) hL
      have q5 := dp_new (K := K) (ds := [.str "value", encVal (.sc (.en u))]) hp5 (.cons (.str _) (.cons (dp_new hp4 (.cons (.str _) (.cons (.str _) .nil))) .nil))
      have s46 := s4.trans (s5.trans s6)
      have d6 := (d3.trans hD2).same s46
      have hLb := (((d3.trans hD2).same (s4.trans s5)).box).ne hL
      refine ⟨_, rfl, bx, 4, rfl, by decide, d6.box, fun m H3 hD3 hm => ?_⟩
      have tp3 := hD3.tps d6.box
      have dF := d6.trans hD3
      have mv : ∀ {v : V} {d : PyData} {H0 : Hp}, noL d = true → Tps H0 H3 → Dp K H0 v d → Dp K H3 v d := fun hd ht hv => dp_tps ht hd hv
      have t1 : Tps (upd H1 p1 (.tup [V.str "principal"])) H3 := fun c ys hc => tp3 c ys (FF.Same.tps s46 c ys (tp c ys (FF.Same.tps (s2.trans s3) c ys hc)))
      have t2 : Tps (upd (upd H1 p1 (.tup [V.str "principal"])) p2 (.tup [V.str "action"])) H3 := fun c ys hc => tp3 c ys (FF.Same.tps s46 c ys (tp c ys (FF.Same.tps s3 c ys hc)))
      have t3 : Tps (upd (upd (upd H1 p1 (.tup [V.str "principal"])) p2 (.tup [V.str "action"])) p3 (.tup [V.str "resource"])) H3 := fun c ys hc => tp3 c ys (FF.Same.tps s46 c ys (tp c ys hc))
      have hL3 := hD3.at hLb (upd_same (a := L) (o := HO.lst [V.ref p1, .ref p2, .ref p3, .ref p5]))
      rcases (show m = 0 ∨ m = 1 ∨ m = 2 ∨ m = 3 by omega) with rfl | rfl | rfl | rfl
      · exact rixL (sqN hL3) rfl (k _ .prin H3 dF (mv rfl t1 q1) rfl trivial fun x hx => by cases hx)
      · exact rixL (sqN hL3) rfl (k _ .act H3 dF (mv rfl t2 q2) rfl trivial fun x hx => by cases hx)
      · exact rixL (sqN hL3) rfl (k _ .res H3 dF (mv rfl t3 q3) rfl trivial fun x hx => by cases hx)
      · exact rixL (sqN hL3) rfl (k _ (.value (.sc (.en u))) H3 dF (mv rfl (fun c ys hc => tp3 c ys (FF.Same.tps s6 c ys hc)) q5) rfl (huo u hum) fun x hx => by cases hx; exact huo u hum)
    · refine ⟨_, rfl, rfl, _, rfl, ifB (fun _ => ?_) (fun _ => ?_)⟩
      · refine ⟨_, rfl, _, _, rfl, rfl, _, rfl, ifB (fun _ => named "given" .given (fun _ => rfl) (fun _ => rfl) (fun _ h => h) (fun _ _ h => by cases h)) (fun _ => ?_)⟩
        refine ⟨_, rfl, bx, 2, rfl, by decide, hD1.box, fun j H2 hD2 hj => ⟨rfl, two, fun p hp => ?_⟩⟩
        exact val (x := .sc (.tr (decide (V.int (j : Int) = V.int 1)))) ((hD1.trans hD2).same (same_new hp)) (dp_new hp (.cons (.str _) (.cons (.bl _) .nil))) trivial
      · refine ⟨_, rfl, rfl, _, rfl, ifB (fun _ => ?_) (fun _ => ?_)⟩
        · refine ⟨_, rfl, bx, 4, rfl, by decide, hD1.box, fun j H2 hD2 hj => ⟨_, _, rfl, rfl, two, fun p hp => ?_⟩⟩
          exact val (x := .sc (.nu ((j : Int) - 1))) ((hD1.trans hD2).same (same_new hp)) (dp_new hp (.cons (.str _) (.cons (.int _) .nil))) ⟨by omega, by omega⟩
        · refine ⟨_, rfl, rfl, _, rfl, ifB (fun _ => ?_) (fun _ => ?_)⟩
          · refine ⟨Nat.zero_le _, fun L hL => ?_⟩
            have sL := same_new (o := HO.lst []) hL
            have d1 := hD1.same sL
            have hLb := hD1.box.ne hL
            refine ⟨_, rfl, bx, 4, rfl, by decide, d1.box, fun n H2 hD2 hn2 => ⟨_, rfl, by omega, by omega, for_it walk_range (fun j σ H3 => (∃ o, σ = [some (.ref bx.bx), some (.str wd), some (.ref ua), some (.ref na), some (.int (i : Int)), some (.ref L), o]) ∧ Drawn bx H1 H3 ∧ ∃ ys, ∃ l : List Scal, H3 L = some (.lst ys) ∧ DpAll K H3 ys (l.map encScal) ∧ (∀ s ∈ l, ScalGood s) ∧ l.length = j)
              ⟨⟨_, rfl⟩, (Drawn.of hD1.box sL).trans hD2, [], [], hD2.at hLb upd_same, .nil, (fun s hs => by cases hs), rfl⟩ (fun _ _ _ _ _ => trivial) ?_ ?_⟩⟩
            · rintro j x σ H3 H4 hj ⟨⟨o, rfl⟩, hd, ys, l, hL3, hys, hl, hlen⟩ ⟨rfl, rfl⟩
              have hu3 := hd.strs hD1.box hu1
              refine ⟨_, rfl, .inl ⟨rfl, _, sqN hL3⟩, _, rfl, _, rfl, _, rfl, _, _, rfl, lenL hu3, bx, _, rfl, pick hun, hd.box, fun m H5 hD5 hm => ?_⟩
              obtain ⟨u, hum, hua⟩ := pick_at hm
              refine rixL (hD5.strs hd.box hu3) hua ⟨two, fun p hp => ?_⟩
              have sp := same_new (o := HO.tup [V.str "entity", .str u]) hp
              have hL5 := sp _ _ (hD5.at hLb hL3)
              have tp := hD5.tps hd.box
              have tp2 := tps_put (o := HO.lst (ys ++ [.ref p])) hL5
              have hjn : j < ((n : Nat) : Int).toNat := hj
              refine ⟨L, ys, _, rfl, rfl, hL5, by rw [enc_len hys, hlen]; exact szlt (by omega), ⟨_, rfl⟩, ((hd.trans hD5).same sp).put hD1.box hL, _, l ++ [.en u], upd_same, ?_, ?_, by rw [List.length_append, hlen]; rfl⟩
              · rw [List.map_append]
                exact dpAll_app (dpAll_tps tp2 (noLs_scals _) (dpAll_same sp (dpAll_tps tp (noLs_scals _) hys))) (.cons (dp_tps tp2 rfl (dp_new hp (.cons (.str _) (.cons (.str _) .nil)))) .nil)
              · intro x hx
                rcases List.mem_append.mp hx with h | h
                · exact hl x h
                · rw [List.mem_singleton.mp h]; exact huo u hum
            · rintro σ H3 ⟨⟨o, rfl⟩, hd, ys, l, hL3, hys, hl, hlen⟩
              exact ⟨_, rfl, .ref L, l, rfl, .lst (sqN hL3) hys, hl, by omega, fun u x H4 hS4 hu4 hx => val ((hD1.trans hd).same hS4) hu4 hx⟩
          · exact ⟨_, rfl, _, rfl, bx, ua, us, rfl, hD1.box, hu1, huo, hun, fun v x H2 hD2 hv hx => val (hD1.trans hD2) hv hx⟩
end
end FF
set_option Elab.async false
set_option linter.all false
set_option maxRecDepth 100000
set_option maxHeartbeats 4000000
namespace FF
open PySem PySem.Spec PyProof.Rows L2
local macro_rules | `(tactic| walk_at "r") => `(tactic| repeat (first
   | refine ⟨_, rfl, ?_⟩
   | refine ⟨_, _, rfl, rfl, ?_⟩
   | refine ⟨rfl, ?_⟩
   | refine rixT (by assumption) rfl ?_
   | refine rixL (by assumption) rfl ?_
   | refine ifT (by decide +kernel) ?_
   | refine ifF (by decide +kernel) ?_))
section
variable {P : Program} {w : World} {K : PySem.W.Frag} {mg : Str → Option Value} {base : Heap}

theorem seq_via {A B : TS} {D : Ends} {σ : List (Option V)} {H : Hp} (I : List (Option V) → Hp → Prop) (hA : ∀ R : List (Option V) → Hp → Prop, (∀ σ H, I σ H → R σ H) → A { D with nx := R } σ H) (hB : ∀ σ H, I σ H → B D σ H) : tSeq A B D σ H := hA _ hB
theorem seq_via2 {A0 A B : TS} {D : Ends} {σ : List (Option V)} {H : Hp} (I : List (Option V) → Hp → Prop) (hA : ∀ R : List (Option V) → Hp → Prop, (∀ σ H, I σ H → R σ H) → tSeq A0 A { D with nx := R } σ H) (hB : ∀ σ H, I σ H → B D σ H) : tSeq A0 (tSeq A B) D σ H := hA _ hB
theorem eff_at {j : Nat} (h : (j : Int) < 3) : ∃ b : Bool, atI [V.str "permit", .str "permit", .str "forbid"] (j : Int) = some (.str (effW b)) := by
  rcases (show j = 0 ∨ j = 1 ∨ j = 2 by omega) with rfl | rfl | rfl
  · exact ⟨true, rfl⟩
  · exact ⟨true, rfl⟩
  · exact ⟨false, rfl⟩
theorem ok_law_policy (T : Top w K mg) (h_law_draw : O_law_draw P w K mg base) (h_law_expression : O_law_expression P w K mg base) (h_law_kinds : O_law_kinds P w K mg base) (h_law_scope : O_law_scope P w K mg base) : O_law_policy P w K mg base := by
  refine mk_ok (f_law_policy T) sc_law_policy rfl rfl (fun _ _ _ _ _ _ us hl => match us, hl with | [_, _, _, _, _, _], _ => rfl) (fun vs H Q E h => ?_) (fun f cdv A outer s H vs Q E hr h => ?_)
  · obtain ⟨bx, ua, na, us, ns, z, rfl, _⟩ := h
    rfl
  · obtain ⟨bx, ua, na, us, ns, z, rfl, hzn, hb, hu, hn, huo, hun, hul, hno, hnn, k⟩ := h
    have sc := sc_law_policy
    refine ⟨_, (pss_cons (ps_set (i := 6) sc.nd rfl (Or.inl rfl) pe_non)
      (pss_cons (ps_if (pt_cmpR op_gt (pe_u h_law_draw hr rfl (g_law_draw T) (pa_cons (pv 0) (pa_cons pe_int pa_nil))) pe_int (nomark _))
      (pss_cons (ps_set (i := 7) sc.nd rfl (Or.inl rfl) (pe_lst pa_nil))
        (pss_cons (ps_for PassesOwn.never rfl (pi_range1 rfl (n_range T) (pa_cons (pe_op op_add pe_int (pe_u h_law_draw hr rfl (g_law_draw T) (pa_cons (pv 0) (pa_cons pe_int pa_nil)))) pa_nil)) (pg_name (i := 8) sc.nd rfl (Or.inl rfl))
        (pss_cons (ps_set (i := 9) sc.nd rfl (Or.inl rfl) (pe_ix ix_seq (pv 2) (pe_u h_law_draw hr rfl (g_law_draw T) (pa_cons (pv 0) (pa_cons (pe_callB call_len (by rfl) (n_len T) PySem.boot_len (pa_cons (pv 2) pa_nil)) pa_nil))) (fun _ _ => rfl)))
          (pss_one (ps_if (pt_cmpR op_notIn_seq (pv 9) (pv 7) rfl)
          (pss_one (ps_expr (pe_bm PySem.F.plainAttrs_list PySem.F.slot_list_append PySem.F.type_list_append mt_append (pv 7) (pa_cons (pv 9) pa_nil))))
          pss_nil))))
        (pss_one (ps_set (i := 6) sc.nd rfl (Or.inl rfl) (pe_callTy call_tuple_of (by rfl) (n_tuple T) (by decide +kernel) (pa_cons (pe_callB cr_sortedS (by rfl) (n_sorted T) (by decide +kernel) (pa_cons (pv 7) pa_nil)) pa_nil))))))
      pss_nil)
      (pss_cons (ps_set (i := 10) sc.nd rfl (Or.inl rfl) (pe_ix ix_seq (pe_lst (pa_cons pe_str (pa_cons pe_str (pa_cons pe_str pa_nil)))) (pe_u h_law_draw hr rfl (g_law_draw T) (pa_cons (pv 0) (pa_cons pe_int pa_nil))) (fun _ _ => rfl)))
      (pss_cons (ps_set (i := 11) sc.nd rfl (Or.inl rfl) (pe_u h_law_kinds hr rfl (g_law_kinds T) (pa_cons (pv 2) pa_nil)))
      (pss_cons (ps_set (i := 12) sc.nd rfl (Or.inl rfl) (pe_u h_law_scope hr rfl (g_law_scope T) (pa_cons (pv 0) (pa_cons (pv 2) (pa_cons (pv 11) (pa_cons (pv 4) pa_nil))))))
      (pss_cons (ps_set (i := 13) sc.nd rfl (Or.inl rfl) (pe_u h_law_scope hr rfl (g_law_scope T) (pa_cons (pv 0) (pa_cons (pv 2) (pa_cons (pv 11) (pa_cons (pv 4) pa_nil))))))
      (pss_cons (ps_if (PW.pt (pw_and (pt_val (pv 4)) (pw_and (pt_cmpR op_ne (pe_ix ix_seq (pv 12) (pe_un un_neg pe_int) (fun _ _ => rfl)) pe_str (nomark _)) (pw_and1 (pt_cmpR op_ne (pe_ix ix_seq (pv 13) (pe_un un_neg pe_int) (fun _ _ => rfl)) pe_str (nomark _))))))
      (pss_one (ps_set (i := 13) sc.nd rfl (Or.inl rfl) (pe_tup (pa_cons pe_str (pa_cons pe_str pa_nil)))))
      pss_nil)
      (pss_one (ps_ret (pe_tup (pa_cons (pv 1) (pa_cons (pv 10) (pa_cons (pv 12) (pa_cons (pv 6) (pa_cons (pv 13) (pa_cons (pe_u h_law_expression hr rfl (g_law_expression T) (pa_cons (pv 0) (pa_cons (pv 2) (pa_cons (pv 3) (pa_cons (pv 5) pa_nil))))) pa_nil)))))))))))))))), ?_⟩
    refine seq_via2 (fun σ H1 => ∃ v acts o7 o8 o9, σ = [some (.ref bx.bx), some (.str z), some (.ref ua), some (.ref na), some (.bl false), some (.int 12), some v, o7, o8, o9, none, none, none, none] ∧ Drawn bx H H1 ∧ Dp K H1 v (encActs acts) ∧ ∀ l, acts = some l → l.length ≤ 1000) (fun R hR => ?_) ?_
    · refine ⟨_, rfl, bx, 3, rfl, by decide, hb, fun i H1 hD1 hi => ⟨_, _, rfl, rfl, _, rfl, ifB (fun _ => ?_) (fun _ => hR _ _ ⟨_, none, _, _, _, rfl, hD1, .non, fun l e => by cases e⟩)⟩⟩
      refine ⟨Nat.zero_le _, fun L hL => ?_⟩
      have sL := same_new (o := HO.lst []) hL
      have d1 := hD1.same sL
      have hLb := hD1.box.ne hL
      have hu1 := sqL_same sL (hD1.strs hb hu)
      refine ⟨_, rfl, bx, 8, rfl, by decide, d1.box, fun n H2 hD2 hn => ⟨_, _, rfl, rfl, _, rfl, by omega, by omega, for_it walk_range (fun j σ H3 => (∃ o8 o9, σ = [some (.ref bx.bx), some (.str z), some (.ref ua), some (.ref na), some (.bl false), some (.int 12), some .non, some (.ref L), o8, o9, none, none, none, none]) ∧ Drawn bx H1 H3 ∧ ∃ l : List Str, H3 L = some (.lst (l.map V.str)) ∧ l.length ≤ j) ⟨⟨_, _, rfl⟩, (Drawn.of hD1.box sL).trans hD2, [], hD2.at hLb upd_same, Nat.le_refl _⟩ (fun _ _ _ _ _ => trivial) ?_ ?_⟩⟩
      · rintro j x σ H3 H4 hj ⟨⟨o8, o9, rfl⟩, hd, l, hl, hlen⟩ ⟨rfl, rfl⟩
        have hu3 := hd.strs hD1.box (hD1.strs hb hu)
        have hjn : j < ((1 : Int) + (n : Nat)).toNat := hj
        refine ⟨_, rfl, _, rfl, _, rfl, _, _, rfl, lenL hu3, bx, _, rfl, pick hun, hd.box, fun q H5 hD5 hq => ?_⟩
        obtain ⟨u, hum, hua⟩ := pick_at hq
        have hl5 := hD5.at hLb hl
        refine rixL (hD5.strs hd.box hu3) hua ⟨_, rfl, _, rfl, L, _, rfl, .inl (sqN hl5), rfl, flat_strs _, _, rfl, ?_⟩
        show if (!inV (.str u) (l.map V.str)) = true then _ else _
        rw [inV_strs]
        refine ifB (fun _ => ?_) (fun _ => ⟨⟨_, _, rfl⟩, hd.trans hD5, l, hl5, by omega⟩)
        refine ⟨_, rfl, .inl ⟨rfl, _, sqN hl5⟩, _, rfl, L, _, _, rfl, rfl, hl5, by rw [List.length_map]; exact szlt (by omega), ⟨_, _, rfl⟩, (hd.trans hD5).put hD1.box hL, l ++ [u], ?_, ?_⟩
        · rw [upd_same, List.map_append]; rfl
        · rw [List.length_append, List.length_singleton]; omega
      · rintro σ H3 ⟨⟨o8, o9, rfl⟩, hd, l, hl, hlen⟩
        have hl9 : l.length ≤ 9 := by omega
        refine ⟨_, rfl, L, l, rfl, sqN hl, by omega, fun ys p2 hperm hsort hp2 => ⟨p2, _, rfl, .inl ⟨sqN upd_same, fun l2 hl2 => ?_⟩⟩⟩
        exact hR _ _ ⟨_, some ys, _, _, _, rfl, (hD1.trans hd).same ((same_new hp2).trans (same_new hl2)), dp_new hl2 (dpAll_ofStrs _), fun l' e => by cases e; rw [hperm.length_eq]; omega⟩
    · rintro σ H1 ⟨v, acts, o7, o8, o9, rfl, hD1, hv, hal⟩
      refine ⟨by show 3 ≤ sizeLine; decide, fun W hW => ?_⟩
      have sW := same_new (o := HO.lst [V.str "permit", .str "permit", .str "forbid"]) hW
      have dW := hD1.same sW
      refine ⟨_, rfl, bx, 3, rfl, by decide, dW.box, fun j H2 hD2 hj => ?_⟩
      obtain ⟨b, hba⟩ := eff_at hj
      have hv2 := dp_tps (hD2.tps dW.box) (noL_acts _) (dp_same sW hv)
      have hd2 := dW.trans hD2
      refine rixL (sqN (hD2.at (hD1.box.ne hW) upd_same)) hba ⟨_, rfl, ua, us, rfl, hd2.strs hb hu, huo, hun, by omega, fun D ks H3 hS3 hD0 hks hkn => ?_⟩
      have hd3 := hd2.same hS3
      have hv3 := dp_same hS3 hv2
      have hu3 := hd3.strs hb hu
      refine ⟨_, rfl, _, rfl, _, rfl, _, rfl, bx, ua, D, us, ks, rfl, hd3.box, hu3, sqN hks, huo, hun, hkn, fun v1 s1 H4 hD4 hv1 hs1 hx1 => ?_⟩
      have hu4 := hD4.strs hd3.box hu3
      have hk4 : SqL K H4 D (ks.map V.str) := hD4.strs hd3.box (sqN hks)
      have t4 := hD4.tps hd3.box
      have hd4 := hd3.trans hD4
      refine ⟨_, rfl, _, rfl, _, rfl, _, rfl, bx, ua, D, us, ks, rfl, hd4.box, hu4, hk4, huo, hun, hkn, fun v2 s2 H5 hD5 hv2' hs2 hx2 => ?_⟩
      have t5 := hD5.tps hd4.box
      have hd5 := hd4.trans hD5
      refine ⟨_, rfl, false, rfl, ifF rfl (ifF rfl ?_)⟩
      refine ⟨_, rfl, _, rfl, _, rfl, _, rfl, _, rfl, _, rfl, _, rfl, _, rfl, _, rfl, bx, ua, na, us, ns, rfl, hd5.box, hd5.strs hb hu, hd5.strs hb hn, huo, hun, hno, hnn, fun v3 e H6 hD6 hv3' he => ⟨by show 6 ≤ sizeLine; decide, fun p hp => ?_⟩⟩
      have t6 := hD6.tps hd5.box
      have m1 := dp_tps t6 (noL_scope _) (dp_tps t5 (noL_scope _) hv1)
      have m2 := dp_tps t6 (noL_scope _) hv2'
      have m3 := dp_tps t6 (noL_acts _) (dp_tps t5 (noL_acts _) (dp_tps t4 (noL_acts _) hv3))
      exact k _ ⟨z, b, s1, acts, s2, e⟩ _ ((hd5.trans hD6).same (same_new hp)) (dp_new hp (.cons (.str _) (.cons (.str _) (.cons m1 (.cons m3 (.cons m2 (.cons hv3' .nil))))))) ⟨⟨strOk_name hzn, by have := name_len hzn; show z.length ≤ 30; omega⟩, he.ok, he.len, hal, hs1, hs2, he.vals⟩

theorem ok_law_policies (T : Top w K mg) (h_law_draw : O_law_draw P w K mg base) (h_law_policy : O_law_policy P w K mg base) (h_law_pool : O_law_pool P w K mg base) : O_law_policies P w K mg base := by
  refine mk_ok (f_law_policies T) sc_law_policies rfl rfl (fun _ _ _ _ _ _ us hl => match us, hl with | [_, _, _, _, _], _ => rfl) (fun vs H Q E h => ?_) (fun f cdv A outer s H vs Q E hr h => ?_)
  · obtain ⟨bx, ua, na, us, ns, rfl, _⟩ := h
    rfl
  · obtain ⟨bx, ua, na, us, ns, rfl, hb, hu, hn, huo, hun, hul, hno, hnn, k⟩ := h
    have sc := sc_law_policies
    refine ⟨_, (pss_cons (ps_set (i := 5) sc.nd rfl (Or.inl rfl) (pe_lst pa_nil))
      (pss_cons (ps_for PassesOwn.never rfl (pi_list (pe_u h_law_pool hr rfl (g_law_pool T) (pa_cons (pv 0) (pa_cons (pv 3) pa_nil)))) (pg_name (i := 6) sc.nd rfl (Or.inl rfl))
      (pss_cons (ps_set (i := 7) sc.nd rfl (Or.inl rfl) (pe_u h_law_policy hr rfl (g_law_policy T) (pa_cons (pv 0) (pa_cons (pv 6) (pa_cons (pv 1) (pa_cons (pv 2) (pa_cons pe_bl (pa_cons (pv 4) pa_nil))))))))
        (pss_cons (ps_if (pt_cmpR op_eq (pe_u h_law_draw hr rfl (g_law_draw T) (pa_cons (pv 0) (pa_cons pe_int pa_nil))) pe_int (nomark _))
        (pss_one (ps_set (i := 7) sc.nd rfl (Or.inl rfl) (pe_tup (pa_cons (pe_ix ix_seq (pv 7) pe_int (fun _ _ => rfl)) (pa_cons (pe_ix ix_seq (pv 7) pe_int (fun _ _ => rfl)) (pa_cons (pe_tup (pa_cons pe_str pa_nil)) (pa_cons pe_non (pa_cons (pe_tup (pa_cons pe_str pa_nil)) (pa_cons (pe_ix ix_seq (pv 7) pe_int (fun _ _ => rfl)) pa_nil)))))))))
        pss_nil)
        (pss_one (ps_expr (pe_bm PySem.F.plainAttrs_list PySem.F.slot_list_append PySem.F.type_list_append mt_append (pv 5) (pa_cons (pv 7) pa_nil)))))))
      (pss_one (ps_ret (pv 5))))), ?_⟩
    refine ⟨Nat.zero_le _, fun L hL => ?_⟩
    have sL := same_new (o := HO.lst []) hL
    have d0 := Drawn.of hb sL
    have hLb := hb.ne hL
    refine ⟨_, rfl, _, rfl, bx, 6, rfl, by decide, d0.box, fun D zs H1 hD1 hD0 hzs hz => ⟨D, rfl, ⟨_, sqN hzs⟩, for_it walk_list (fun i σ H2 => (∃ o6 o7, σ = [some (.ref bx.bx), some (.ref ua), some (.ref na), some (.int 6), some (.int 12), some (.ref L), o6, o7]) ∧ Drawn bx H H2 ∧ H2 D = some (.lst (zs.map V.str)) ∧ ∃ xs, ∃ ps : List Pol, H2 L = some (.lst xs) ∧ DpAll K H2 xs (ps.map encPol) ∧ ps.length = i ∧ ∀ p ∈ ps, PolG p)
      ⟨⟨_, _, rfl⟩, d0.trans hD1, hzs, [], [], hD1.at hLb upd_same, .nil, rfl, fun p hp => by cases hp⟩ (fun _ _ _ _ h => sqN h.2.2.1) ?_ ?_⟩⟩
    · rintro i x σ H2 H3 hi ⟨⟨o6, o7, rfl⟩, hd, hzs2, xs, ps, hL2, hxs, hlen, hps⟩ ⟨rfl, hx⟩
      obtain ⟨z, hzi, rfl⟩ := map_at hx
      have hil : i < zs.length := by simpa using hi
      have hz6 := hz.len
      have hDb := d0.box.ne hD0
      have hDL : D ≠ L := fun e => by rw [e, upd_same] at hD0; cases hD0
      refine seq_via2 (fun σ H5 => (∃ v' p', σ = [some (.ref bx.bx), some (.ref ua), some (.ref na), some (.int 6), some (.int 12), some (.ref L), some (.str z), some v'] ∧ Dp K H5 v' (encPol p') ∧ PolG p') ∧ Drawn bx H3 H5) (fun R hR => ?_) ?_
      · refine ⟨_, rfl, _, rfl, _, rfl, _, rfl, _, rfl, bx, ua, na, us, ns, z, rfl, hz.name z (mem_at hzi), hd.box, hd.strs hb hu, hd.strs hb hn, huo, hun, hul, hno, hnn, fun v p H4 hD4 hv hp => ?_⟩
        refine ⟨_, rfl, bx, 2, rfl, by decide, hD4.box, fun j H5 hD5 hj => ⟨rfl, _, rfl, ifB (fun _ => ?_) (fun _ => hR _ _ ⟨⟨v, p, rfl, dp_tps (hD5.tps hD4.box) (noL_pol _) hv, hp⟩, hD4.trans hD5⟩)⟩⟩
        have hv5 := dp_tps (hD5.tps hD4.box) (noL_pol _) hv
        obtain ⟨q0, x1, x2, x3, x4, x5, x6, rfl, hq, g1, g2, g3, g4, g5, g6⟩ := dp6 hv5
        refine ⟨_, rfl, rixT hq rfl ⟨_, rfl, rixT hq rfl ⟨by show 1 ≤ sizeLine; decide, fun p1 hp1 => ⟨by show 1 ≤ sizeLine; decide, fun p2 hp2 => ?_⟩⟩⟩⟩
        have s1 := same_new (o := HO.tup [V.str "any"]) hp1
        have s2 := same_new (o := HO.tup [V.str "any"]) hp2
        have s12 := s1.trans s2
        refine ⟨_, rfl, rixT (sqT_same s12 hq) rfl ⟨by show 6 ≤ sizeLine; decide, fun p3 hp3 => ?_⟩⟩
        have a1 := dp_same s2 (dp_new (K := K) (ds := [.str "any"]) hp1 (.cons (.str _) .nil))
        have a2 := dp_new (K := K) (ds := [.str "any"]) hp2 (.cons (.str _) .nil)
        refine hR _ _ ⟨⟨_, ⟨p.id, p.permit, .any, none, .any, p.cond⟩, rfl, dp_new hp3 (.cons (dp_same s12 g1) (.cons (dp_same s12 g2) (.cons a1 (.cons .non (.cons a2 (.cons (dp_same s12 g6) .nil)))))), ⟨hp.id, hp.ok, hp.len, (fun l e => by cases e), trivial, trivial, hp.vals⟩⟩, (hD4.trans hD5).same (s12.trans (same_new hp3))⟩
      · rintro σ H5 ⟨⟨v', p', rfl, hv', hp'⟩, hD5⟩
        have hL5 := hD5.at hLb hL2
        have tp := hD5.tps hd.box
        have tp2 := tps_put (o := HO.lst (xs ++ [v'])) hL5
        refine ⟨_, rfl, .inl ⟨rfl, _, sqN hL5⟩, _, rfl, L, xs, v', rfl, rfl, hL5, by rw [enc_len hxs, hlen]; exact szlt (by omega), ⟨_, _, rfl⟩, (hd.trans hD5).put hb hL, by rw [upd_ne hDL]; exact hD5.at hDb hzs2, xs ++ [v'], ps ++ [p'], upd_same, ?_, by rw [List.length_append, hlen]; rfl, ?_⟩
        · rw [List.map_append]
          exact dpAll_app (dpAll_tps tp2 (noLs_map noL_pol _) (dpAll_tps tp (noLs_map noL_pol _) hxs)) (.cons (dp_tps tp2 (noL_pol _) hv') .nil)
        · intro q hq
          rcases List.mem_append.mp hq with h | h
          · exact hps q h
          · rw [List.mem_singleton.mp h]; exact hp'
    · rintro σ H2 ⟨⟨o6, o7, rfl⟩, hd, hzs2, xs, ps, hL2, hxs, hlen, hps⟩
      have hz6 := hz.len
      refine ⟨_, rfl, k L ps xs H2 hd hL hL2 hxs ⟨hps, ?_⟩⟩
      rw [hlen, List.length_map]
      omega
end
end FF
set_option Elab.async false
set_option linter.all false
set_option maxRecDepth 100000
set_option maxHeartbeats 4000000
namespace FF
open PySem PySem.Spec PyProof.Rows L2
local macro_rules | `(tactic| walk_at "r") => `(tactic| repeat (first
   | refine ⟨_, rfl, ?_⟩
   | refine ⟨_, _, rfl, rfl, ?_⟩
   | refine ⟨rfl, ?_⟩
   | refine rixT (by assumption) rfl ?_
   | refine rixL (by assumption) rfl ?_
   | refine ifT (by decide +kernel) ?_
   | refine ifF (by decide +kernel) ?_))
section
variable {P : Program} {w : World} {K : PySem.W.Frag} {mg : Str → Option Value} {base : Heap}

theorem noLs_pairs (l : List (Str × Val)) : noLs (l.map encPair) = true := noLs_map noL_pair l
theorem ok_law_request (T : Top w K mg) (h_law_draw : O_law_draw P w K mg base) (h_law_value : O_law_value P w K mg base) : O_law_request P w K mg base := by
  refine mk_ok (f_law_request T) sc_law_request rfl rfl (fun _ _ _ _ _ _ us hl => match us, hl with | [_, _, _], _ => rfl) (fun vs H Q E h => ?_) (fun f cdv A outer s H vs Q E hr h => ?_)
  · obtain ⟨bx, ua, na, us, ns, rfl, _⟩ := h
    rfl
  · obtain ⟨bx, ua, na, us, ns, rfl, hb, hu, hn, hus, hns, k⟩ := h
    have sc := sc_law_request
    refine ⟨_, (pss_cons (ps_set (i := 3) sc.nd rfl (Or.inl rfl) (pe_lst pa_nil))
      (pss_cons (ps_for PassesOwn.never rfl (pi_list (pe_callB cr_sortedS (by rfl) (n_sorted T) (by decide +kernel) (pa_cons (pv 2) pa_nil))) (pg_name (i := 4) sc.nd rfl (Or.inl rfl))
      (pss_one (ps_if (pt_cmpR op_eq (pe_u h_law_draw hr rfl (g_law_draw T) (pa_cons (pv 0) (pa_cons pe_int pa_nil))) pe_int (nomark _))
        (pss_one (ps_expr (pe_bm PySem.F.plainAttrs_list PySem.F.slot_list_append PySem.F.type_list_append mt_append (pv 3) (pa_cons (pe_tup (pa_cons (pv 4) (pa_cons (pe_u h_law_value hr rfl (g_law_value T) (pa_cons (pv 0) (pa_cons (pv 1) pa_nil))) pa_nil))) pa_nil))))
        pss_nil)))
      (pss_cons (ps_setLc (i := 5) (own := [("_law_k", 6)]) rfl sc.nd rfl rfl (sw_true rfl rfl rfl (by decide +kernel)) (pi_range1 rfl (n_range T) (pa_cons pe_int pa_nil)) (blkOk_by (own := [("_law_k", 6)]) (N := N_law_request) (sc := defScope s_law_request) (by decide +kernel)) (fun _ _ _ _ _ => (pg_name (i := 6) sc.nd rfl (Or.inl rfl))) (fun _ _ _ _ _ => pts_nil) (fun _ _ _ _ _ => (pe_ix (r := rIx K) ix_seq (pv 1) (pe_u h_law_draw hr rfl (g_law_draw T) (pa_cons (pv 0) (pa_cons (pe_callB (r := fun xs H Q => ∃ x n, xs = [x] ∧ LenV K x H n ∧ Q (.int (n : Int)) H) call_len (by rfl) (n_len T) PySem.boot_len (pa_cons (pv 1) pa_nil)) pa_nil))) (fun _ _ => rfl))))
      (pss_one (ps_ret (pe_tup (pa_cons (pe_ix ix_seq (pv 5) pe_int (fun _ _ => rfl)) (pa_cons (pe_ix ix_seq (pv 5) pe_int (fun _ _ => rfl)) (pa_cons (pe_ix ix_seq (pv 5) pe_int (fun _ _ => rfl)) (pa_cons (pe_callTy call_tuple_of (by rfl) (n_tuple T) (by decide +kernel) (pa_cons (pe_slice sl_any (pv 3) po_none (po_some pe_int)) pa_nil)) pa_nil)))))))))), ?_⟩
    have hun : us ≠ [] := fun e => by have := hus.len; rw [e] at this; cases this
    have hnl := hns.len
    refine ⟨Nat.zero_le _, fun L hL => ?_⟩
    have sL := same_new (o := HO.lst []) hL
    have d0 := Drawn.of hb sL
    have hLb := hb.ne hL
    refine ⟨_, rfl, na, ns, rfl, sqL_same sL hn, by omega, fun ys D hperm hsort hD => ⟨D, rfl, ⟨_, sqN upd_same⟩, for_it walk_list (fun i σ H2 => (∃ o4, σ = [some (.ref bx.bx), some (.ref ua), some (.ref na), some (.ref L), o4, none, none]) ∧ Drawn bx H H2 ∧ H2 D = some (.lst (ys.map V.str)) ∧ ∃ xs, ∃ l : List (Str × Val), H2 L = some (.lst xs) ∧ DpAll K H2 xs (l.map encPair) ∧ l.length ≤ i ∧ ∀ q ∈ l, ValGood q.2)
      ⟨⟨_, rfl⟩, d0.same (same_new hD), upd_same, [], [], same_new hD _ _ upd_same, .nil, Nat.le_refl _, fun p hp => by cases hp⟩ (fun _ _ _ _ h => sqN h.2.2.1) ?_ ?_⟩⟩
    · rintro i x σ H2 H3 hi ⟨⟨o4, rfl⟩, hd, hys2, xs, l, hL2, hxs, hlen, hl⟩ ⟨rfl, hx⟩
      obtain ⟨z, hzi, rfl⟩ := map_at hx
      have hil : i < ys.length := by simpa using hi
      have hyl := hperm.length_eq
      have hDb := d0.box.ne hD
      have hDL : D ≠ L := fun e => by rw [e, upd_same] at hD; cases hD
      refine ⟨_, rfl, bx, 2, rfl, by decide, hd.box, fun j H5 hD5 hj => ⟨rfl, _, rfl, ifB (fun _ => ?_) (fun _ => ⟨⟨_, rfl⟩, hd.trans hD5, hD5.at hDb hys2, xs, l, hD5.at hLb hL2, dpAll_tps (hD5.tps hd.box) (noLs_pairs _) hxs, by omega, hl⟩)⟩⟩
      have hd5 := hd.trans hD5
      refine ⟨_, rfl, .inl ⟨rfl, _, sqN (hD5.at hLb hL2)⟩, _, rfl, _, rfl, _, rfl, bx, ua, us, rfl, hd5.box, hd5.strs hb hu, hus.uid, hun, fun v x H6 hD6 hv hx => ⟨by show 2 ≤ sizeLine; decide, fun p hp => ?_⟩⟩
      have hd6 := hd5.trans hD6
      have s6 := same_new (o := HO.tup [V.str z, v]) hp
      have dd := (hD5.trans hD6).same s6
      have hL6 := dd.at hLb hL2
      have tp := dd.tps hd.box
      have tp2 := tps_put (o := HO.lst (xs ++ [.ref p])) hL6
      refine ⟨L, xs, _, rfl, rfl, hL6, by rw [enc_len hxs]; exact szlt (by omega), ⟨_, rfl⟩, (hd.trans dd).put hb hL, by rw [upd_ne hDL]; exact dd.at hDb hys2, xs ++ [.ref p], l ++ [(z, x)], upd_same, ?_, by rw [List.length_append, List.length_singleton]; omega, ?_⟩
      · rw [List.map_append]
        exact dpAll_app (dpAll_tps tp2 (noLs_pairs _) (dpAll_tps tp (noLs_pairs _) hxs)) (.cons (dp_tps tp2 (noL_pair (z, x)) (dp_new hp (.cons (.str _) (.cons hv .nil)))) .nil)
      · intro q hq
        rcases List.mem_append.mp hq with h | h
        · exact hl q h
        · rw [List.mem_singleton.mp h]; exact hx
    · rintro σ H2 ⟨⟨o4, rfl⟩, hd, hys2, xs, l, hL2, hxs, hlen, hl⟩
      have hyl := hperm.length_eq
      rw [List.length_map] at hlen
      refine ⟨_, rfl, by decide, by decide, fun R hR => lc_it walk_range (fun i H3 => Drawn bx H2 H3 ∧ ∃ ps : List Str, H3 R = some (.lst (ps.map V.str)) ∧ ps.length = i ∧ ∀ p ∈ ps, isUid p = true) ⟨Drawn.of hd.box (same_new hR), [], upd_same, rfl, fun p hp => by cases hp⟩ (fun _ _ _ _ => trivial) ?_ ?_⟩
      · rintro i x H3 H4 hi ⟨hD3, ps, hps, hpl, hpu⟩ ⟨rfl, rfl⟩
        have hi3 : i < (3 : Int).toNat := hi
        have hi3 : i < 3 := hi3
        have hu3 := (hd.trans hD3).strs hb hu
        refine ⟨rfl, _, rfl, _, rfl, _, rfl, _, _, rfl, lenL hu3, bx, _, rfl, pick hun, hD3.box, fun q H5 hD5 hq => ?_⟩
        obtain ⟨u, hum, hua⟩ := pick_at hq
        refine rixL (hD5.strs hD3.box hu3) hua ⟨_, hD5.at (hd.box.ne hR) hps, by rw [List.length_map]; exact szlt (by omega), (hD3.trans hD5).put hd.box hR, ps ++ [u], by rw [upd_same, List.map_append]; rfl, by rw [List.length_append, hpl]; rfl, fun p hp => ?_⟩
        rcases List.mem_append.mp hp with h | h
        · exact hpu p h
        · rw [List.mem_singleton.mp h]; exact hus.uid u hum
      · rintro H3 ⟨hD3, ps, hps, hpl, hpu⟩
        match ps, hpl with
        | [p1, p2, p3], _ =>
          refine ⟨_, rfl, rixL (sqN hps) rfl ⟨_, rfl, rixL (sqN hps) rfl ⟨_, rfl, rixL (sqN hps) rfl ?_⟩⟩⟩
          have hL3 := hD3.at hLb hL2
          refine ⟨_, rfl, _, rfl, slL (sqN hL3) fun p H4 hS4 hp0 hp => ⟨p, _, rfl, .inl ⟨sqN hp, fun q hq => ⟨by show 4 ≤ sizeLine; decide, fun r hr' => ?_⟩⟩⟩⟩
          have hxl := enc_len hxs
          have e8 : cutV xs none (some (8 : Int)) = xs := by
            rw [show (some (8 : Int)) = some ((8 : Nat) : Int) from rfl, cutV_take]
            exact List.take_of_length_le (by omega)
          have hqd : Dp K (upd H4 q (HO.tup (cutV xs none (some (8 : Int))))) (.ref q) (encPairs l) := dp_new hq (by rw [e8]; exact dpAll_same hS4 (dpAll_tps (hD3.tps hd.box) (noLs_pairs _) hxs))
          exact k _ ⟨p1, p2, p3, l⟩ _ ((((hd.trans hD3).same hS4).same (same_new hq)).same (same_new hr')) (dp_new hr' (.cons (.str _) (.cons (.str _) (.cons (.str _) (.cons (hqd) .nil))))) ⟨hpu _ (by simp), hpu _ (by simp), hpu _ (by simp), by show l.length ≤ 8; omega, hl⟩

end
end FF
set_option Elab.async false
set_option linter.all false
set_option maxRecDepth 100000
set_option maxHeartbeats 4000000
namespace FF
open PySem PySem.Spec PyProof.Rows L2
local macro_rules | `(tactic| walk_at "r") => `(tactic| repeat (first
   | refine ⟨_, rfl, ?_⟩
   | refine ⟨_, _, rfl, rfl, ?_⟩
   | refine ⟨rfl, ?_⟩
   | refine rixT (by assumption) rfl ?_
   | refine rixL (by assumption) rfl ?_
   | refine ifT (by decide +kernel) ?_
   | refine ifF (by decide +kernel) ?_))
section
variable {P : Program} {w : World} {K : PySem.W.Frag} {mg : Str → Option Value} {base : Heap}

theorem sub_one {α : Type} {l ys : List α} {i : Nat} {z : α} (h : l.Sublist (ys.take i)) (hz : ys[i]? = some z) : (l ++ [z]).Sublist (ys.take (i + 1)) := by
  rw [List.take_add_one, hz]
  exact h.append (List.Sublist.refl _)
theorem sub_up {α : Type} {l ys : List α} {i : Nat} (h : l.Sublist (ys.take i)) : l.Sublist (ys.take (i + 1)) := h.trans (List.take_sublist_take_left (Nat.le_succ i))
theorem sub_rising {l ys : List Str} {n : Nat} (h : l.Sublist (ys.take n)) (hs : sortedS ys = true) (hn : ys.Nodup) : Rising l :=
  have h' := h.trans (List.take_sublist _ _)
  rising_of ((sorted_pw hs).sublist h') (hn.sublist h')
theorem ok_law_entities (T : Top w K mg) (h_law_draw : O_law_draw P w K mg base) (h_law_value : O_law_value P w K mg base) : O_law_entities P w K mg base := by
  refine mk_ok (f_law_entities T) sc_law_entities rfl rfl (fun _ _ _ _ _ _ us hl => match us, hl with | [_, _, _], _ => rfl) (fun vs H Q E h => ?_) (fun f cdv A outer s H vs Q E hr h => ?_)
  · obtain ⟨bx, ua, na, us, ns, rfl, _⟩ := h
    rfl
  · obtain ⟨bx, ua, na, us, ns, rfl, hb, hu, hn, hus, hns, k⟩ := h
    have sc := sc_law_entities
    refine ⟨_, (pss_cons (ps_set (i := 3) sc.nd rfl (Or.inl rfl) (pe_lst pa_nil))
      (pss_cons (ps_for PassesOwn.never rfl (pi_list (pv 1)) (pg_name (i := 4) sc.nd rfl (Or.inl rfl))
      (pss_one (ps_if (pt_cmpR op_gt (pe_u h_law_draw hr rfl (g_law_draw T) (pa_cons (pv 0) (pa_cons pe_int pa_nil))) pe_int (nomark _))
        (pss_cons (ps_set (i := 5) sc.nd rfl (Or.inl rfl) (pe_lst pa_nil))
          (pss_cons (ps_for PassesOwn.never rfl (pi_list (pe_callB cr_sortedS (by rfl) (n_sorted T) (by decide +kernel) (pa_cons (pv 2) pa_nil))) (pg_name (i := 6) sc.nd rfl (Or.inl rfl))
          (pss_one (ps_if (pt_cmpR op_gt (pe_u h_law_draw hr rfl (g_law_draw T) (pa_cons (pv 0) (pa_cons pe_int pa_nil))) pe_int (nomark _))
            (pss_cons (ps_set (i := 7) sc.nd rfl (Or.inl rfl) (pe_tup (pa_cons pe_str (pa_cons (pe_ix ix_seq (pv 1) (pe_u h_law_draw hr rfl (g_law_draw T) (pa_cons (pv 0) (pa_cons (pe_callB call_len (by rfl) (n_len T) PySem.boot_len (pa_cons (pv 1) pa_nil)) pa_nil))) (fun _ _ => rfl)) pa_nil))))
              (pss_cons (ps_if (pt_cmpR op_eq (pe_u h_law_draw hr rfl (g_law_draw T) (pa_cons (pv 0) (pa_cons pe_int pa_nil))) pe_int (nomark _))
              (pss_one (ps_set (i := 7) sc.nd rfl (Or.inl rfl) (pe_u h_law_value hr rfl (g_law_value T) (pa_cons (pv 0) (pa_cons (pv 1) pa_nil)))))
              pss_nil)
              (pss_one (ps_expr (pe_bm PySem.F.plainAttrs_list PySem.F.slot_list_append PySem.F.type_list_append mt_append (pv 5) (pa_cons (pe_tup (pa_cons (pv 6) (pa_cons (pv 7) pa_nil))) pa_nil))))))
            pss_nil)))
          (pss_cons (ps_set (i := 8) sc.nd rfl (Or.inl rfl) (pe_lst pa_nil))
          (pss_cons (ps_for PassesOwn.never rfl (pi_list (pe_callB cr_sortedS (by rfl) (n_sorted T) (by decide +kernel) (pa_cons (pv 1) pa_nil))) (pg_name (i := 9) sc.nd rfl (Or.inl rfl))
          (pss_one (ps_if (PW.pt (pw_and (pt_cmpR op_eq (pe_u h_law_draw hr rfl (g_law_draw T) (pa_cons (pv 0) (pa_cons pe_int pa_nil))) pe_int (nomark _)) (pw_and1 (pt_cmpR L2.op_lt (pe_callB call_len (by rfl) (n_len T) PySem.boot_len (pa_cons (pv 8) pa_nil)) pe_int (nomark _)))))
            (pss_one (ps_expr (pe_bm PySem.F.plainAttrs_list PySem.F.slot_list_append PySem.F.type_list_append mt_append (pv 8) (pa_cons (pv 9) pa_nil))))
            pss_nil)))
          (pss_one (ps_expr (pe_bm PySem.F.plainAttrs_list PySem.F.slot_list_append PySem.F.type_list_append mt_append (pv 3) (pa_cons (pe_tup (pa_cons (pv 4) (pa_cons (pe_callTy call_tuple_of (by rfl) (n_tuple T) (by decide +kernel) (pa_cons (pe_slice sl_any (pv 5) po_none (po_some pe_int)) pa_nil)) (pa_cons (pe_callTy call_tuple_of (by rfl) (n_tuple T) (by decide +kernel) (pa_cons (pv 8) pa_nil)) pa_nil)))) pa_nil))))))))
        pss_nil)))
      (pss_one (ps_ret (pv 3))))), ?_⟩
    have hun : us ≠ [] := fun e => by have := hus.len; rw [e] at this; cases this
    have hnl := hns.len
    have hul := hus.len
    refine ⟨Nat.zero_le _, fun L hL => ?_⟩
    have sL := same_new (o := HO.lst []) hL
    have d0 := Drawn.of hb sL
    have hLb := hb.ne hL
    refine ⟨_, rfl, ua, rfl, ⟨_, sqL_same sL hu⟩, for_it walk_list (fun i σ H2 => (∃ o4 o5 o6 o7 o8 o9, σ = [some (.ref bx.bx), some (.ref ua), some (.ref na), some (.ref L), o4, o5, o6, o7, o8, o9]) ∧ Drawn bx H H2 ∧ ∃ xs, ∃ es : List Ent, H2 L = some (.lst xs) ∧ DpAll K H2 xs (es.map encEnt) ∧ (es.map (·.uid)).Sublist (us.take i) ∧ ∀ e ∈ es, EntGood e ∧ ∀ p ∈ e.par, p ∈ us)
      ⟨⟨_, _, _, _, _, _, rfl⟩, d0, [], [], upd_same, .nil, List.nil_sublist _, fun p hp => by cases hp⟩ (fun _ _ _ _ h => h.2.1.strs hb hu) ?_ ?_⟩
    · rintro i x σ H2 H3 hi ⟨⟨o4, o5, o6, o7, o8, o9, rfl⟩, hd, xs, es, hL2, hxs, hsub, hes⟩ ⟨rfl, hx⟩
      obtain ⟨u, hui, rfl⟩ := map_at hx
      have hil : i < us.length := by simpa using hi
      have hel : es.length ≤ i := by
        have := hsub.length_le
        rw [List.length_map, List.length_take] at this
        omega
      refine ⟨_, rfl, bx, 5, rfl, by decide, hd.box, fun j H4 hD4 hj => ⟨_, _, rfl, rfl, _, rfl, ifB (fun _ => ?_) (fun _ => ⟨⟨_, _, _, _, _, _, rfl⟩, hd.trans hD4, xs, es, hD4.at hLb hL2, dpAll_tps (hD4.tps hd.box) (noLs_ents _) hxs, sub_up hsub, hes⟩)⟩⟩
      refine ⟨Nat.zero_le _, fun L5 hL5 => ?_⟩
      have hd4 := hd.trans hD4
      have sL5 := same_new (o := HO.lst []) hL5
      have hL5b := hD4.box.ne hL5
      have d5 := hd4.same sL5
      have dx5 : Drawn bx H4 _ := Drawn.of hD4.box sL5
      refine ⟨_, rfl, na, ns, rfl, d5.strs hb hn, by omega, fun ys D hperm hsort hD => ⟨D, rfl, ⟨_, sqN upd_same⟩, for_it walk_list (fun i σ H6 => (∃ o6 o7, σ = [some (.ref bx.bx), some (.ref ua), some (.ref na), some (.ref L), some (.str u), some (.ref L5), o6, o7, o8, o9]) ∧ Drawn bx H4 H6 ∧ H6 D = some (.lst (ys.map V.str)) ∧ ∃ xs, ∃ l : List (Str × Val), H6 L5 = some (.lst xs) ∧ DpAll K H6 xs (l.map encPair) ∧ (l.map (·.1)).Sublist (ys.take i) ∧ ∀ q ∈ l, ValGood q.2)
        ⟨⟨_, _, rfl⟩, dx5.same (same_new hD), upd_same, [], [], same_new hD _ _ upd_same, .nil, List.nil_sublist _, fun p hp => by cases hp⟩ (fun _ _ _ _ h => sqN h.2.2.1) ?_ ?_⟩⟩
      · rintro m x σ H5 H6 hm ⟨⟨o6, o7, rfl⟩, hd6, hys6, zs, l, hL6, hzs, hlsub, hl⟩ ⟨rfl, hx⟩
        obtain ⟨z, hzi, rfl⟩ := map_at hx
        have hml : m < ys.length := by simpa using hm
        have hyl := hperm.length_eq
        have hll : l.length ≤ m := by
          have := hlsub.length_le
          rw [List.length_map, List.length_take] at this
          omega
        have hDb := dx5.box.ne hD
        have hDL : D ≠ L5 := fun e => by rw [e, upd_same] at hD; cases hD
        refine ⟨_, rfl, bx, 3, rfl, by decide, hd6.box, fun j H7 hD7 hj => ⟨_, _, rfl, rfl, _, rfl, ifB (fun _ => ?_) (fun _ => ⟨⟨_, _, rfl⟩, hd6.trans hD7, hD7.at hDb hys6, zs, l, hD7.at hL5b hL6, dpAll_tps (hD7.tps hd6.box) (noLs_pairs _) hzs, sub_up hlsub, hl⟩)⟩⟩
        have hd7 := hd6.trans hD7
        have hu7 : SqL K H7 ua (us.map V.str) := (hd4.trans hd7).strs hb hu
        refine seq_via2 (fun σ H8 => (∃ v x, σ = [some (.ref bx.bx), some (.ref ua), some (.ref na), some (.ref L), some (.str u), some (.ref L5), some (.str z), some v, o8, o9] ∧ Dp K H8 v (encVal x) ∧ ValGood x) ∧ Drawn bx H7 H8) (fun R hR => ?_) ?_
        · refine ⟨_, rfl, _, rfl, _, rfl, _, _, rfl, lenL hu7, bx, _, rfl, pick hun, hd7.box, fun q H8 hD8 hq => ?_⟩
          obtain ⟨t, htm, hta⟩ := pick_at hq
          have hu8 := hD8.strs hd7.box hu7
          refine rixL hu8 hta ⟨by show 2 ≤ sizeLine; decide, fun p hp => ?_⟩
          have sp := same_new (o := HO.tup [V.str "entity", .str t]) hp
          have d8 := hD8.same sp
          have q8 : Dp K (upd H8 p (HO.tup [V.str "entity", .str t])) (.ref p) (encVal (.sc (.en t))) := dp_new hp (.cons (.str _) (.cons (.str _) .nil))
          refine ⟨_, rfl, bx, 3, rfl, by decide, d8.box, fun j H9 hD9 hj => ⟨rfl, _, rfl, ifB (fun _ => ?_) (fun _ => hR _ _ ⟨⟨_, _, rfl, dp_tps (hD9.tps d8.box) (noL_val _) q8, hus.uid t htm⟩, d8.trans hD9⟩)⟩⟩
          have d9 := d8.trans hD9
          exact ⟨_, rfl, _, rfl, bx, ua, us, rfl, d9.box, d9.strs hd7.box hu7, hus.uid, hun, fun v x H10 hD10 hv hx => hR _ _ ⟨⟨_, _, rfl, hv, hx⟩, d9.trans hD10⟩⟩
        · rintro σ H8 ⟨⟨v, x, rfl, hv, hx⟩, hD8⟩
          have dd := hD7.trans hD8
          have hL8 := dd.at hL5b hL6
          refine ⟨_, rfl, .inl ⟨rfl, _, sqN hL8⟩, _, rfl, _, rfl, by show 2 ≤ sizeLine; decide, fun p hp => ?_⟩
          have s8 := same_new (o := HO.tup [V.str z, v]) hp
          have d9 := dd.same s8
          have hL9 := d9.at hL5b hL6
          have tp := d9.tps hd6.box
          have tp2 := tps_put (o := HO.lst (zs ++ [.ref p])) hL9
          refine ⟨L5, zs, _, rfl, rfl, hL9, by rw [enc_len hzs]; exact szlt (by omega), ⟨_, _, rfl⟩, (hd6.trans d9).put hD4.box hL5, by rw [upd_ne hDL]; exact d9.at hDb hys6, zs ++ [.ref p], l ++ [(z, x)], upd_same, ?_, ?_, ?_⟩
          · rw [List.map_append]
            exact dpAll_app (dpAll_tps tp2 (noLs_pairs _) (dpAll_tps tp (noLs_pairs _) hzs)) (.cons (dp_tps tp2 (noL_pair (z, x)) (dp_new hp (.cons (.str _) (.cons hv .nil)))) .nil)
          · rw [List.map_append]
            exact sub_one hlsub hzi
          · intro q hq
            rcases List.mem_append.mp hq with h | h
            · exact hl q h
            · rw [List.mem_singleton.mp h]; exact hx
      · rintro σ H6 ⟨⟨o6, o7, rfl⟩, hd6, hys6, zs, l, hL6, hzs, hlsub, hl⟩
        have hyn : ys.Nodup := hperm.nodup_iff.mpr hns.nodup
        have hyl := hperm.length_eq
        have hll : l.length ≤ 5 := by
          have := hlsub.length_le
          rw [List.length_map, List.length_take] at this
          omega
        rw [List.length_map] at hlsub
        have hpg : PairsGood l := ⟨fun q hq => hns.name _ (hperm.mem_iff.mp ((List.take_sublist _ _).subset (hlsub.subset (List.mem_map_of_mem hq)))), hl, sub_rising hlsub hsort hyn, by omega⟩
        refine ⟨Nat.zero_le _, fun L8 hL8 => ?_⟩
        have sL8 := same_new (o := HO.lst []) hL8
        have hL8b := hd6.box.ne hL8
        have d8 : Drawn bx H6 _ := Drawn.of hd6.box sL8
        refine ⟨_, rfl, ua, us, rfl, ((hd4.trans hd6).trans d8).strs hb hu, by omega, fun ws D2 hperm2 hsort2 hD2 => ⟨D2, rfl, ⟨_, sqN upd_same⟩, for_it walk_list (fun i σ H7 => (∃ o9, σ = [some (.ref bx.bx), some (.ref ua), some (.ref na), some (.ref L), some (.str u), some (.ref L5), o6, o7, some (.ref L8), o9]) ∧ Drawn bx H6 H7 ∧ H7 D2 = some (.lst (ws.map V.str)) ∧ ∃ ps : List Str, H7 L8 = some (.lst (ps.map V.str)) ∧ ps.Sublist (ws.take i) ∧ ps.length ≤ 6)
          ⟨⟨_, rfl⟩, d8.same (same_new hD2), upd_same, [], same_new hD2 _ _ upd_same, List.nil_sublist _, Nat.zero_le _⟩ (fun _ _ _ _ h => sqN h.2.2.1) ?_ ?_⟩⟩
        · rintro m x σ H7 H9 hm ⟨⟨o9', rfl⟩, hd7, hws7, ps, hL7, hpsub, hpl⟩ ⟨rfl, hx⟩
          obtain ⟨z, hzi, rfl⟩ := map_at hx
          have hDb := d8.box.ne hD2
          have hDL : D2 ≠ L8 := fun e => by rw [e, upd_same] at hD2; cases hD2
          refine ⟨_, rfl, bx, 4, rfl, by decide, hd7.box, fun j H10 hD10 hj => ?_⟩
          have keep : (∃ o9, [some (V.ref bx.bx), some (.ref ua), some (.ref na), some (.ref L), some (.str u), some (.ref L5), o6, o7, some (.ref L8), some (.str z)] = [some (V.ref bx.bx), some (.ref ua), some (.ref na), some (.ref L), some (.str u), some (.ref L5), o6, o7, some (.ref L8), o9]) ∧ Drawn bx H6 H10 ∧ H10 D2 = some (.lst (ws.map V.str)) ∧ ∃ ps : List Str, H10 L8 = some (.lst (ps.map V.str)) ∧ ps.Sublist (ws.take (m + 1)) ∧ ps.length ≤ 6 :=
            ⟨⟨_, rfl⟩, hd7.trans hD10, hD10.at hDb hws7, ps, hD10.at hL8b hL7, sub_up hpsub, hpl⟩
          have hL10 := hD10.at hL8b hL7
          refine ⟨rfl, _, rfl, ifB (fun _ => ⟨_, rfl, _, _, rfl, lenL (sqN hL10), _, _, rfl, rfl, _, rfl, ifB (fun h6 => ?_) (fun _ => keep)⟩) (fun _ => ifF rfl keep)⟩
          have h6' : ps.length < 6 := by
            have h7 : ((ps.map V.str).length : Int) < 6 := of_decide_eq_true h6
            rw [List.length_map] at h7
            omega
          refine ⟨_, rfl, .inl ⟨rfl, _, sqN hL10⟩, _, rfl, L8, _, _, rfl, rfl, hL10, by rw [List.length_map]; exact szlt (by omega), ⟨_, rfl⟩, (hd7.trans hD10).put hd6.box hL8, by rw [upd_ne hDL]; exact hD10.at hDb hws7, ps ++ [z], by rw [upd_same, List.map_append]; rfl, sub_one hpsub hzi, by rw [List.length_append, List.length_singleton]; omega⟩
        · rintro σ H7 ⟨⟨o9', rfl⟩, hd7, hws7, ps, hL7, hpsub, hpl⟩
          have hwn : ws.Nodup := hperm2.nodup_iff.mpr hus.nodup
          have hpu : ∀ p ∈ ps, p ∈ us := fun p hp => hperm2.mem_iff.mp ((List.take_sublist _ _).subset (hpsub.subset hp))
          have dA := hD4.trans (hd6.trans hd7)
          have hLA := dA.at hLb hL2
          have h5A := hd7.at hL5b hL6
          refine ⟨_, rfl, .inl ⟨rfl, _, sqN hLA⟩, _, rfl, _, rfl, _, rfl, slL (sqN h5A) fun p H8 hS8 hp0 hp => ⟨p, _, rfl, .inl ⟨sqN hp, fun q hq => ?_⟩⟩⟩
          have hxl := enc_len hzs
          have e8 : cutV zs none (some (8 : Int)) = zs := by
            rw [show (some (8 : Int)) = some ((8 : Nat) : Int) from rfl, cutV_take]
            exact List.take_of_length_le (by omega)
          have hqd : Dp K (upd H8 q (HO.tup (cutV zs none (some (8 : Int))))) (.ref q) (encPairs l) := dp_new hq (by rw [e8]; exact dpAll_same hS8 (dpAll_tps (hd7.tps hd6.box) (noLs_pairs _) hzs))
          have sq := same_new (o := HO.tup (cutV zs none (some (8 : Int)))) hq
          refine ⟨_, rfl, L8, _, rfl, .inl ⟨sqN (sq _ _ (hS8 _ _ hL7)), fun r hr' => ⟨by show 3 ≤ sizeLine; decide, fun t ht => ?_⟩⟩⟩
          have sr := same_new (o := HO.tup (ps.map V.str)) hr'
          have st := same_new (o := HO.tup [V.str u, .ref q, .ref r]) ht
          have sA := hS8.trans (sq.trans (sr.trans st))
          have dB := dA.same sA
          have hLB := dB.at hLb hL2
          have tp := dB.tps hd.box
          have tp2 := tps_put (o := HO.lst (xs ++ [.ref t])) hLB
          refine ⟨L, xs, _, rfl, rfl, hLB, by rw [enc_len hxs]; exact szlt (by omega), ⟨_, _, _, _, _, _, rfl⟩, (hd.trans dB).put hb hL, xs ++ [.ref t], es ++ [⟨u, l, ps⟩], upd_same, ?_, ?_, ?_⟩
          · rw [List.map_append]
            exact dpAll_app (dpAll_tps tp2 (noLs_ents _) (dpAll_tps tp (noLs_ents _) hxs)) (.cons (dp_tps tp2 (noL_ent ⟨u, l, ps⟩) (dp_new ht (.cons (.str _) (.cons (dp_same sr hqd) (.cons (dp_new hr' (dpAll_ofStrs _)) .nil))))) .nil)
          · rw [List.map_append]
            exact sub_one hsub hui
          · intro e he
            rcases List.mem_append.mp he with h | h
            · exact hes e h
            · rw [List.mem_singleton.mp h]
              exact ⟨⟨hus.uid u (mem_at hui), hpg, fun p hp => hus.uid p (hpu p hp), sub_rising hpsub hsort2 hwn, hpl⟩, hpu⟩
    · rintro σ H2 ⟨⟨o4, o5, o6, o7, o8, o9, rfl⟩, hd, xs, es, hL2, hxs, hsub, hes⟩
      have hs' := hsub.trans (List.take_sublist _ _)
      have hel : es.length ≤ 8 := by
        have := hs'.length_le
        rw [List.length_map] at this
        omega
      exact ⟨_, rfl, k L es xs H2 hd hL hL2 hxs ⟨hus.nodup.sublist hs', by omega, fun e he => (hes e he).1, us, by omega, fun e he => (hes e he).2⟩⟩
end
end FF
set_option Elab.async false
set_option linter.all false
set_option maxRecDepth 100000
set_option maxHeartbeats 4000000
namespace FF
open PySem PySem.Spec PyProof.Rows L2
local macro_rules | `(tactic| walk_at "r") => `(tactic| repeat (first
   | refine ⟨_, rfl, ?_⟩
   | refine ⟨_, _, rfl, rfl, ?_⟩
   | refine ⟨rfl, ?_⟩
   | refine rixT (by assumption) rfl ?_
   | refine rixL (by assumption) rfl ?_
   | refine ifT (by decide +kernel) ?_
   | refine ifF (by decide +kernel) ?_))
section
variable {P : Program} {w : World} {K : PySem.W.Frag} {mg : Str → Option Value} {base : Heap}

theorem atI_neg {xs : List V} {n : Nat} {v : V} (h0 : 0 < n) (h : xs.reverse[n - 1]? = some v) : atI xs (-(n : Int)) = some v := by
  have hl : n - 1 < xs.length := by
    have := (List.getElem?_eq_some_iff.mp h).1
    simpa using this
  rw [List.getElem?_reverse hl] at h
  unfold atI ixN
  rw [if_neg (by omega), if_pos (by omega)]
  show xs[_]? = _
  rw [← h]
  congr 1
  omega
theorem want_at {ws : List Str} {n : Nat} (h0 : 0 < n) (h : n ≤ ws.length) : ∃ s, atI (ws.map V.str) (-(n : Int)) = some (.str s) := by
  have hl : n - 1 < ws.reverse.length := by rw [List.length_reverse]; omega
  refine ⟨ws.reverse[n - 1], atI_neg h0 ?_⟩
  rw [← List.map_reverse, List.getElem?_map, List.getElem?_eq_getElem hl]
  rfl
theorem top_at {rts : List Nat} {n t : Nat} (h0 : 0 < n) (h : rts[n - 1]? = some t) : atI (rts.reverse.map fun t : Nat => V.int (t : Int)) (-(n : Int)) = some (.int (t : Int)) := by
  refine atI_neg h0 ?_
  rw [← List.map_reverse, List.reverse_reverse, List.getElem?_map, h]
  rfl
theorem tops_cut {rts : List Nat} {n : Nat} (h : n ≤ rts.length) : (rts.reverse.map fun t : Nat => V.int (t : Int)).take (rts.length - n) = (rts.drop n).reverse.map fun t : Nat => V.int (t : Int) := by
  rw [← List.map_take, List.take_reverse]
  congr 3
  omega
theorem if_via {c : TT} {t u : TS} {D : Ends} {σ : List (Option V)} {H : Hp} (b : Bool) (hc : ∀ R : Bool → Hp → Prop, R b H → c σ H R) (ht : b = true → t D σ H) (hu : b = false → u D σ H) : tIfS c t u D σ H := by
  refine hc _ ?_
  cases b with
  | true => exact ht rfl
  | false => exact hu rfl
theorem word_at {j : Nat} (h : (j : Int) < 4) : ∃ w : One, atI [V.str "get", .str "get", .str "has", .str "is"] (j : Int) = some (.str w.w) := by
  rcases (show j = 0 ∨ j = 1 ∨ j = 2 ∨ j = 3 by omega) with rfl | rfl | rfl | rfl
  · exact ⟨.get, rfl⟩
  · exact ⟨.get, rfl⟩
  · exact ⟨.has, rfl⟩
  · exact ⟨.is_, rfl⟩
theorem want_sign {i : Nat} (hi : (i : Int) < 6) : ∃ c, atI (("ettnsx" : Str)).cps.toList (i : Int) = some c := by
  have hl : (sg ("ettnsx" : Str)).length = 6 := by decide +kernel
  obtain ⟨c, h, _⟩ := at_of (l := sg ("ettnsx" : Str)) (p := fun _ => true) (i := i) (by decide +kernel) (by omega)
  exact ⟨c, h⟩
structure Ex (K : PySem.W.Frag) (H : Hp) (b L A5 A6 : Addr) (e : List Node) (rts : List Nat) (ws : List Str) : Prop where
  nodes : ∃ xs, H L = some (.lst xs) ∧ DpAll K H xs (e.map encNode)
  tops : H A5 = some (.lst (rts.reverse.map fun t : Nat => V.int (t : Int)))
  wants : H A6 = some (.lst (ws.map V.str))
  n5 : A5 ≠ L
  n6 : A6 ≠ L
  b5 : A5 ≠ b
  b6 : A6 ≠ b
  len : ws.length = rts.length
  gr : Grown e rts
  ok : ∀ nd ∈ e, NodeOk nd ∧ ∀ v, nd = Node.value v → ValGood v
theorem noLs_nodes (l : List Node) : noLs (l.map encNode) = true := noLs_map noL_node l
theorem ok_law_expression (T : Top w K mg) (h_law_draw : O_law_draw P w K mg base) (h_law_leaf : O_law_leaf P w K mg base) (h_law_pair : O_law_pair P w K mg base) : O_law_expression P w K mg base := by
  refine mk_ok (f_law_expression T) sc_law_expression rfl rfl (fun _ _ _ _ _ _ us hl => match us, hl with | [_, _, _, _], _ => rfl) (fun vs H Q E h => ?_) (fun f cdv A outer s H vs Q E hr h => ?_)
  · obtain ⟨bx, ua, na, us, ns, rfl, _⟩ := h
    rfl
  · obtain ⟨bx, ua, na, us, ns, rfl, hb, hu, hn, huo, hun, hno, hnn, k⟩ := h
    have sc := sc_law_expression
    refine ⟨_, (pss_cons (ps_set (i := 4) sc.nd rfl (Or.inl rfl) (pe_lst pa_nil))
      (pss_cons (ps_set (i := 5) sc.nd rfl (Or.inl rfl) (pe_lst pa_nil))
      (pss_cons (ps_set (i := 6) sc.nd rfl (Or.inl rfl) (pe_lst pa_nil))
      (pss_cons (ps_for PassesOwn.never rfl (pi_range1 rfl (n_range T) (pa_cons (pe_op op_add pe_int (pe_u h_law_draw hr rfl (g_law_draw T) (pa_cons (pv 0) (pa_cons (pv 3) pa_nil)))) pa_nil)) (pg_name (i := 7) sc.nd rfl (Or.inl rfl))
      (pss_cons (ps_set (i := 8) sc.nd rfl (Or.inl rfl) (pe_u h_law_draw hr rfl (g_law_draw T) (pa_cons (pv 0) (pa_cons pe_int pa_nil))))
        (pss_cons (ps_if (PW.pt (pw_and (pt_cmpR op_ge (pe_callB call_len (by rfl) (n_len T) PySem.boot_len (pa_cons (pv 5) pa_nil)) pe_int (nomark _)) (pw_and1 (pt_cmpR op_eq (pv 8) pe_int (nomark _)))))
        (pss_cons (ps_expr (pe_bm PySem.F.plainAttrs_list PySem.F.slot_list_append PySem.F.type_list_append mt_append (pv 4) (pa_cons (pe_tup (pa_cons pe_str (pa_cons (pe_ix ix_seq (pv 5) (pe_un un_neg pe_int) (fun _ _ => rfl)) (pa_cons (pe_ix ix_seq (pv 5) (pe_un un_neg pe_int) (fun _ _ => rfl)) (pa_cons (pe_ix ix_seq (pv 5) (pe_un un_neg pe_int) (fun _ _ => rfl)) pa_nil))))) pa_nil)))
          (pss_cons (ps_set (i := 9) sc.nd rfl (Or.inl rfl) (pe_ix ix_seq (pv 6) (pe_un un_neg pe_int) (fun _ _ => rfl)))
          (pss_one (ps_set (i := 10) sc.nd rfl (Or.inl rfl) (pe_op op_sub (pe_callB call_len (by rfl) (n_len T) PySem.boot_len (pa_cons (pv 5) pa_nil)) pe_int)))))
        (pss_one (ps_if (PW.pt (pw_and (pt_cmpR op_ge (pe_callB call_len (by rfl) (n_len T) PySem.boot_len (pa_cons (pv 5) pa_nil)) pe_int (nomark _)) (pw_and1 (pt_cmpR op_le (pv 8) pe_int (nomark _)))))
          (pss_cons (ps_expr (pe_bm PySem.F.plainAttrs_list PySem.F.slot_list_append PySem.F.type_list_append mt_append (pv 4) (pa_cons (pe_tup (pa_cons (pe_u h_law_pair hr rfl (g_law_pair T) (pa_cons (pv 0) (pa_cons (pe_ix ix_seq (pv 6) (pe_un un_neg pe_int) (fun _ _ => rfl)) (pa_cons (pe_ix ix_seq (pv 6) (pe_un un_neg pe_int) (fun _ _ => rfl)) pa_nil)))) (pa_cons (pe_ix ix_seq (pv 5) (pe_un un_neg pe_int) (fun _ _ => rfl)) (pa_cons (pe_ix ix_seq (pv 5) (pe_un un_neg pe_int) (fun _ _ => rfl)) pa_nil)))) pa_nil)))
            (pss_cons (ps_set (i := 9) sc.nd rfl (Or.inl rfl) pe_str)
            (pss_one (ps_set (i := 10) sc.nd rfl (Or.inl rfl) (pe_op op_sub (pe_callB call_len (by rfl) (n_len T) PySem.boot_len (pa_cons (pv 5) pa_nil)) pe_int)))))
          (pss_one (ps_if (PW.pt (pw_and (pt_cmpR op_ge (pe_callB call_len (by rfl) (n_len T) PySem.boot_len (pa_cons (pv 5) pa_nil)) pe_int (nomark _)) (pw_and1 (pt_cmpR op_le (pv 8) pe_int (nomark _)))))
            (pss_cons (ps_set (i := 11) sc.nd rfl (Or.inl rfl) (pe_ix ix_seq (pv 2) (pe_u h_law_draw hr rfl (g_law_draw T) (pa_cons (pv 0) (pa_cons (pe_callB call_len (by rfl) (n_len T) PySem.boot_len (pa_cons (pv 2) pa_nil)) pa_nil))) (fun _ _ => rfl)))
              (pss_cons (ps_set (i := 12) sc.nd rfl (Or.inl rfl) (pe_ix ix_seq (pe_lst (pa_cons pe_str (pa_cons pe_str (pa_cons pe_str (pa_cons pe_str pa_nil))))) (pe_u h_law_draw hr rfl (g_law_draw T) (pa_cons (pv 0) (pa_cons pe_int pa_nil))) (fun _ _ => rfl)))
              (pss_cons (ps_set (i := 9) sc.nd rfl (Or.inl rfl) pe_str)
              (pss_cons (ps_if (pt_cmpR op_ne (pv 12) pe_str (nomark _))
              (pss_one (ps_set (i := 9) sc.nd rfl (Or.inl rfl) pe_str))
              pss_nil)
              (pss_cons (ps_set (i := 13) sc.nd rfl (Or.inl rfl) (pe_tup (pa_cons (pv 12) (pa_cons (pe_ix ix_seq (pv 5) (pe_un un_neg pe_int) (fun _ _ => rfl)) (pa_cons (pv 11) pa_nil)))))
              (pss_cons (ps_if (pt_cmpR op_eq (pe_ix ix_seq (pv 6) (pe_un un_neg pe_int) (fun _ _ => rfl)) pe_str (nomark _))
              (pss_cons (ps_set (i := 13) sc.nd rfl (Or.inl rfl) (pe_tup (pa_cons pe_str (pa_cons (pe_ix ix_seq (pv 5) (pe_un un_neg pe_int) (fun _ _ => rfl)) pa_nil))))
                (pss_one (ps_set (i := 9) sc.nd rfl (Or.inl rfl) pe_str)))
              pss_nil)
              (pss_cons (ps_expr (pe_bm PySem.F.plainAttrs_list PySem.F.slot_list_append PySem.F.type_list_append mt_append (pv 4) (pa_cons (pv 13) pa_nil)))
              (pss_one (ps_set (i := 10) sc.nd rfl (Or.inl rfl) (pe_op op_sub (pe_callB call_len (by rfl) (n_len T) PySem.boot_len (pa_cons (pv 5) pa_nil)) pe_int))))))))))
            (pss_cons (ps_set (i := 9) sc.nd rfl (Or.inl rfl) (pe_ix ix_seq pe_str (pe_u h_law_draw hr rfl (g_law_draw T) (pa_cons (pv 0) (pa_cons pe_int pa_nil))) (fun _ _ => rfl)))
              (pss_cons (ps_expr (pe_bm PySem.F.plainAttrs_list PySem.F.slot_list_append PySem.F.type_list_append mt_append (pv 4) (pa_cons (pe_u h_law_leaf hr rfl (g_law_leaf T) (pa_cons (pv 0) (pa_cons (pv 9) (pa_cons (pv 1) (pa_cons (pv 2) pa_nil))))) pa_nil)))
              (pss_one (ps_set (i := 10) sc.nd rfl (Or.inl rfl) (pe_callB call_len (by rfl) (n_len T) PySem.boot_len (pa_cons (pv 5) pa_nil)))))))))))
        (pss_cons (ps_set (i := 5) sc.nd rfl (Or.inl rfl) (pe_op op_cat (pe_slice sl_any (pv 5) po_none (po_some (pv 10))) (pe_lst (pa_cons (pe_op op_sub (pe_callB call_len (by rfl) (n_len T) PySem.boot_len (pa_cons (pv 4) pa_nil)) pe_int) pa_nil))))
        (pss_one (ps_set (i := 6) sc.nd rfl (Or.inl rfl) (pe_op op_cat (pe_slice sl_any (pv 6) po_none (po_some (pv 10))) (pe_lst (pa_cons (pv 9) pa_nil)))))))))
      (pss_cons (ps_for PassesOwn.never rfl (pi_range1 rfl (n_range T) (pa_cons (pv 3) pa_nil)) (pg_name (i := 7) sc.nd rfl (Or.inl rfl))
      (pss_one (ps_if (pt_cmpR op_gt (pe_callB call_len (by rfl) (n_len T) PySem.boot_len (pa_cons (pv 5) pa_nil)) pe_int (nomark _))
        (pss_cons (ps_expr (pe_bm PySem.F.plainAttrs_list PySem.F.slot_list_append PySem.F.type_list_append mt_append (pv 4) (pa_cons (pe_tup (pa_cons (pe_u h_law_pair hr rfl (g_law_pair T) (pa_cons (pv 0) (pa_cons (pe_ix ix_seq (pv 6) (pe_un un_neg pe_int) (fun _ _ => rfl)) (pa_cons (pe_ix ix_seq (pv 6) (pe_un un_neg pe_int) (fun _ _ => rfl)) pa_nil)))) (pa_cons (pe_ix ix_seq (pv 5) (pe_un un_neg pe_int) (fun _ _ => rfl)) (pa_cons (pe_ix ix_seq (pv 5) (pe_un un_neg pe_int) (fun _ _ => rfl)) pa_nil)))) pa_nil)))
          (pss_cons (ps_set (i := 5) sc.nd rfl (Or.inl rfl) (pe_op op_cat (pe_slice sl_any (pv 5) po_none (po_some (pe_un un_neg pe_int))) (pe_lst (pa_cons (pe_op op_sub (pe_callB call_len (by rfl) (n_len T) PySem.boot_len (pa_cons (pv 4) pa_nil)) pe_int) pa_nil))))
          (pss_one (ps_set (i := 6) sc.nd rfl (Or.inl rfl) (pe_op op_cat (pe_slice sl_any (pv 6) po_none (po_some (pe_un un_neg pe_int))) (pe_lst (pa_cons pe_str pa_nil)))))))
        pss_nil)))
      (pss_one (ps_ret (pe_callTy call_tuple_of (by rfl) (n_tuple T) (by decide +kernel) (pa_cons (pv 4) pa_nil))))))))), ?_⟩
    refine ⟨Nat.zero_le _, fun L hL => ⟨Nat.zero_le _, fun A5 hA5 => ⟨Nat.zero_le _, fun A6 hA6 => ?_⟩⟩⟩
    have hLb := hb.ne hL
    have s1 := same_new (o := HO.lst []) hL
    have s2 := same_new (o := HO.lst []) hA5
    have s3 := same_new (o := HO.lst []) hA6
    have d0 := Drawn.of hb ((s1.trans s2).trans s3)
    have h5L : A5 ≠ L := fun e => by rw [e, upd_same] at hA5; cases hA5
    have h6L : A6 ≠ L := fun e => by rw [e, s2 _ _ upd_same] at hA6; cases hA6
    have h56 : A6 ≠ A5 := fun e => by rw [e, upd_same] at hA6; cases hA6
    have h5b := (hb.same s1).ne hA5
    have h6b := (hb.same (s1.trans s2)).ne hA6
    refine ⟨_, rfl, _, rfl, bx, 12, rfl, by decide, d0.box, fun n H1 hD1 hn12 => ⟨_, _, rfl, rfl, _, rfl, by omega, by omega, for_it walk_range (fun j σ H3 => ∃ A5 A6 o7 o8 o9 o10 o11 o12 o13 e rts ws, σ = [some (.ref bx.bx), some (.ref ua), some (.ref na), some (.int 12), some (.ref L), some (.ref A5), some (.ref A6), o7, o8, o9, o10, o11, o12, o13] ∧ Drawn bx H H3 ∧ Ex K H3 bx.bx L A5 A6 e rts ws ∧ e.length = j ∧ rts.length ≤ j ∧ (0 < j → rts ≠ []))
      ⟨A5, A6, _, _, _, _, _, _, _, [], [], [], rfl, d0.trans hD1, ⟨⟨[], hD1.at hLb (s3 _ _ (s2 _ _ upd_same)), .nil⟩, hD1.at h5b (s3 _ _ upd_same), hD1.at h6b upd_same, h5L, h6L, h5b, h6b, rfl, grown_nil, fun nd h => by cases h⟩, rfl, Nat.le_refl _, fun h => absurd h (by decide)⟩ (fun _ _ _ _ _ => trivial) ?_ ?_⟩⟩
    · rintro j x σ H3 H4 hj ⟨A5, A6, o7, o8, o9, o10, o11, o12, o13, e, rts, ws, rfl, hd, ex, hej, hrj, hr0⟩ ⟨rfl, rfl⟩
      have hjn : j < ((1 : Int) + (n : Nat)).toNat := hj
      have hj13 : j < 12 := by omega
      obtain ⟨xs, hxL, hxs⟩ := ex.nodes
      have hlx : xs.length = e.length := by rw [enc_len hxs]
      refine seq_via2 (fun σ H5 => ∃ (nd : Node) (m : Nat) (want : Str) (o7 o8 o11 o12 o13 : Option V), σ = [some (.ref bx.bx), some (.ref ua), some (.ref na), some (.int 12), some (.ref L), some (.ref A5), some (.ref A6), o7, o8, some (.str want), some (.int ((rts.length - m : Nat) : Int)), o11, o12, o13] ∧ Drawn bx H H5 ∧ (∃ xs, H5 L = some (.lst xs) ∧ DpAll K H5 xs ((e ++ [nd]).map encNode)) ∧ H5 A5 = some (.lst (rts.reverse.map fun t : Nat => V.int (t : Int))) ∧ H5 A6 = some (.lst (ws.map V.str)) ∧ m ≤ rts.length ∧ Grown (e ++ [nd]) (e.length :: rts.drop m) ∧ NodeOk nd ∧ ∀ v, nd = Node.value v → ValGood v) (fun R hR => ?_) ?_
      · have fin : ∀ (H5 : Hp) (v : V) (nd : Node) (m : Nat), Drawn bx H4 H5 → Dp K H5 v (encNode nd) → m ≤ rts.length → Grown (e ++ [nd]) (e.length :: rts.drop m) → NodeOk nd → (∀ v, nd = Node.value v → ValGood v) → ∀ (want : Str) (kp : Int) (o7 o8 o11 o12 o13 : Option V), kp = ((rts.length - m : Nat) : Int) → R [some (.ref bx.bx), some (.ref ua), some (.ref na), some (.int 12), some (.ref L), some (.ref A5), some (.ref A6), o7, o8, some (.str want), some (.int kp), o11, o12, o13] (upd H5 L (.lst (xs ++ [v]))) := by
          intro H5 v nd m hD5 hv hm hg hn1 hv1 want kp o7 o8 o11 o12 o13 hkp
          subst hkp
          have hL5 := hD5.at hLb hxL
          have tp := hD5.tps hd.box
          have tp2 := tps_put (o := HO.lst (xs ++ [v])) hL5
          refine hR _ _ ⟨nd, m, want, o7, o8, o11, o12, o13, rfl, (hd.trans hD5).put hb hL, ⟨_, upd_same, ?_⟩, by rw [upd_ne ex.n5]; exact hD5.at ex.b5 ex.tops, by rw [upd_ne ex.n6]; exact hD5.at ex.b6 ex.wants, hm, hg, hn1, hv1⟩
          rw [List.map_append]
          exact dpAll_app (dpAll_tps tp2 (noLs_nodes _) (dpAll_tps tp (noLs_nodes _) hxs)) (.cons (dp_tps tp2 (noL_node _) hv) .nil)
        have szx : xs.length < sizeLine := by rw [hlx]; exact szlt (by omega)
        have topsl : (rts.reverse.map fun t : Nat => V.int (t : Int)).length = rts.length := by rw [List.length_map, List.length_reverse]
        refine seq_via (fun σ H5 => ∃ (o7 : Option V) (stp : Nat), σ = [some (.ref bx.bx), some (.ref ua), some (.ref na), some (.int 12), some (.ref L), some (.ref A5), some (.ref A6), o7, some (.int (stp : Int)), o9, o10, o11, o12, o13] ∧ Drawn bx H4 H5) (fun R hR => ⟨_, rfl, bx, 10, rfl, by decide, hd.box, fun stp H5 hD5 hstp => hR _ _ ⟨_, stp, rfl, hD5⟩⟩) ?_
        rintro σ H5 ⟨o7', stp, rfl, hD5⟩
        have t5 := hD5.at ex.b5 ex.tops
        have w5 := hD5.at ex.b6 ex.wants
        have L5 := hD5.at hLb hxL
        refine if_via (decide (3 ≤ rts.length) && decide (stp = 0)) (fun R' hR' => ?_) (fun hc => ?_) (fun hc => ?_)
        · refine ⟨_, rfl, _, _, rfl, lenL (sqN t5), _, _, rfl, rfl, _, rfl, ?_⟩
          rw [topsl]
          refine ifB (fun h => ⟨_, rfl, rfl, _, rfl, ?_⟩) (fun h => ?_)
          · have h3 : 3 ≤ rts.length := by
              have := of_decide_eq_true h
              omega
            have e1 : (decide (3 ≤ rts.length) && decide (stp = 0)) = decide (V.int (stp : Int) = V.int 0) := by simp [h3]
            rw [e1] at hR'
            exact hR'
          · have h3 : ¬ 3 ≤ rts.length := by
              have := of_decide_eq_false h
              omega
            have e1 : (decide (3 ≤ rts.length) && decide (stp = 0)) = false := by simp [h3]
            rw [e1] at hR'
            exact hR'
        · have h3 : 3 ≤ rts.length := by simp at hc; exact hc.1
          obtain ⟨a, b, c, r, rfl⟩ : ∃ a b c r, rts = a :: b :: c :: r := by
            match rts, h3 with
            | a :: b :: c :: r, _ => exact ⟨a, b, c, r, rfl⟩
          refine ⟨_, rfl, .inl ⟨rfl, _, sqN L5⟩, _, rfl, _, rfl, rixL (sqN t5) (top_at (n := 3) (by decide) rfl) ⟨_, rfl, _, rfl, rixL (sqN t5) (top_at (n := 2) (by decide) rfl) ⟨_, rfl, _, rfl, rixL (sqN t5) (top_at (n := 1) (by decide) rfl) ⟨by show 4 ≤ sizeLine; decide, fun p hp => ?_⟩⟩⟩⟩
          have sp := same_new (o := HO.tup [V.str "if", .int (c : Int), .int (b : Int), .int (a : Int)]) hp
          have hnd : Dp K (upd H5 p (HO.tup [V.str "if", .int (c : Int), .int (b : Int), .int (a : Int)])) (.ref p) (encNode (.ite c b a)) := dp_new hp (.cons (.str _) (.cons (.int _) (.cons (.int _) (.cons (.int _) .nil))))
          refine ⟨L, xs, _, rfl, rfl, sp _ _ L5, szx, ?_⟩
          obtain ⟨wd, hwd⟩ := want_at (ws := ws) (n := 1) (by decide) (by rw [ex.len]; simp)
          refine ⟨_, rfl, _, rfl, rixL (sqN (by rw [upd_ne ex.n6]; exact sp _ _ w5)) hwd ?_⟩
          refine ⟨_, rfl, _, _, rfl, lenL (sqN (by rw [upd_ne ex.n5]; exact sp _ _ t5)), _, _, rfl, rfl, ?_⟩
          exact fin _ _ _ 3 (hD5.same sp) hnd h3 (grown3 ex.gr rfl) trivial (fun v hv => by cases hv) wd _ _ _ _ _ _ (by rw [topsl]; omega)
        · clear hc
          refine if_via (decide (2 ≤ rts.length) && decide (stp ≤ 4)) (fun R' hR' => ?_) (fun hc => ?_) (fun hc => ?_)
          · refine ⟨_, rfl, _, _, rfl, lenL (sqN t5), _, _, rfl, rfl, _, rfl, ?_⟩
            rw [topsl]
            refine ifB (fun h => ⟨_, rfl, _, _, rfl, rfl, _, rfl, ?_⟩) (fun h => ?_)
            · have h3 : 2 ≤ rts.length := by
                have := of_decide_eq_true h
                omega
              have e1 : (decide (2 ≤ rts.length) && decide (stp ≤ 4)) = decide ((stp : Int) ≤ 4) := by simp [h3]; omega
              rw [e1] at hR'
              exact hR'
            · have h3 : ¬ 2 ≤ rts.length := by
                have := of_decide_eq_false h
                omega
              have e1 : (decide (2 ≤ rts.length) && decide (stp ≤ 4)) = false := by simp [h3]
              rw [e1] at hR'
              exact hR'
          · have h3 : 2 ≤ rts.length := by simp at hc; exact hc.1
            obtain ⟨a, b, r, rfl⟩ : ∃ a b r, rts = a :: b :: r := by
              match rts, h3 with
              | a :: b :: r, _ => exact ⟨a, b, r, rfl⟩
            obtain ⟨w1, hw1⟩ := want_at (ws := ws) (n := 2) (by decide) (by rw [ex.len]; simp)
            obtain ⟨w2, hw2⟩ := want_at (ws := ws) (n := 1) (by decide) (by rw [ex.len]; simp)
            refine ⟨_, rfl, .inl ⟨rfl, _, sqN L5⟩, _, rfl, _, rfl, _, rfl, rixL (sqN w5) hw1 ⟨_, rfl, _, rfl, rixL (sqN w5) hw2 ⟨bx, w1, w2, rfl, hD5.box, fun t H6 hD6 => ?_⟩⟩⟩
            have d6 := hD5.trans hD6
            have t6 := d6.at ex.b5 ex.tops
            have w6 := d6.at ex.b6 ex.wants
            refine ⟨_, rfl, _, rfl, rixL (sqN t6) (top_at (n := 2) (by decide) rfl) ⟨_, rfl, _, rfl, rixL (sqN t6) (top_at (n := 1) (by decide) rfl) ⟨by show 3 ≤ sizeLine; decide, fun p hp => ?_⟩⟩⟩
            have sp := same_new (o := HO.tup [V.str t.w, .int (b : Int), .int (a : Int)]) hp
            have hnd : Dp K (upd H6 p (HO.tup [V.str t.w, .int (b : Int), .int (a : Int)])) (.ref p) (encNode (.two t b a)) := dp_new hp (.cons (.str _) (.cons (.int _) (.cons (.int _) .nil)))
            refine ⟨L, xs, _, rfl, rfl, sp _ _ (d6.at hLb hxL), szx, ?_⟩
            refine ⟨_, rfl, _, _, rfl, lenL (sqN (by rw [upd_ne ex.n5]; exact sp _ _ t6)), _, _, rfl, rfl, ?_⟩
            exact fin _ _ _ 2 (d6.same sp) hnd h3 (grown2 ex.gr rfl) trivial (fun v hv => by cases hv) "t" _ _ _ _ _ _ (by rw [topsl]; omega)
          · clear hc
            refine if_via (decide (1 ≤ rts.length) && decide (stp ≤ 7)) (fun R' hR' => ?_) (fun hc => ?_) (fun hc => ?_)
            · refine ⟨_, rfl, _, _, rfl, lenL (sqN t5), _, _, rfl, rfl, _, rfl, ?_⟩
              rw [topsl]
              refine ifB (fun h => ⟨_, rfl, _, _, rfl, rfl, _, rfl, ?_⟩) (fun h => ?_)
              · have h3 : 1 ≤ rts.length := by
                  have := of_decide_eq_true h
                  omega
                have e1 : (decide (1 ≤ rts.length) && decide (stp ≤ 7)) = decide ((stp : Int) ≤ 7) := by simp [h3]; omega
                rw [e1] at hR'
                exact hR'
              · have h3 : ¬ 1 ≤ rts.length := by
                  have := of_decide_eq_false h
                  omega
                have e1 : (decide (1 ≤ rts.length) && decide (stp ≤ 7)) = false := by simp [h3]
                rw [e1] at hR'
                exact hR'
            · have h3 : 1 ≤ rts.length := by simp at hc; exact hc.1
              obtain ⟨a, r, rfl⟩ : ∃ a r, rts = a :: r := by
                match rts, h3 with
                | a :: r, _ => exact ⟨a, r, rfl⟩
              have n5 := (hd.trans hD5).strs hb hn
              refine ⟨_, rfl, _, rfl, _, rfl, _, _, rfl, lenL n5, bx, _, rfl, pick hnn, hD5.box, fun q H6 hD6 hq => ?_⟩
              obtain ⟨nm, hnm, hna⟩ := pick_at hq
              refine rixL (hD6.strs hD5.box n5) hna ⟨by show 4 ≤ sizeLine; decide, fun W hW => ?_⟩
              have sW := same_new (o := HO.lst [V.str "get", .str "get", .str "has", .str "is"]) hW
              have hWb := hD6.box.ne hW
              have d6 := (hD5.trans hD6).same sW
              refine ⟨_, rfl, bx, 4, rfl, by decide, d6.box, fun q2 H7 hD7 hq2 => ?_⟩
              obtain ⟨wd, hwd⟩ := word_at hq2
              have d7 := d6.trans hD7
              have t7 := d7.at ex.b5 ex.tops
              have w7 := d7.at ex.b6 ex.wants
              have L7 := d7.at hLb hxL
              refine rixL (sqN (hD7.at hWb upd_same)) hwd ?_
              refine seq_via2 (fun σ H8 => σ = [some (.ref bx.bx), some (.ref ua), some (.ref na), some (.int 12), some (.ref L), some (.ref A5), some (.ref A6), o7', some (.int (stp : Int)), some (.str "e"), o10, some (.str nm), some (.str wd.w), o13] ∧ H7 = H8) (fun R0 hR0 => hR0 _ _ ⟨rfl, rfl⟩) ?_
              rintro _ _ ⟨rfl, rfl⟩
              refine seq_via (fun σ H8 => (∃ want : Str, σ = [some (.ref bx.bx), some (.ref ua), some (.ref na), some (.int 12), some (.ref L), some (.ref A5), some (.ref A6), o7', some (.int (stp : Int)), some (.str want), o10, some (.str nm), some (.str wd.w), o13]) ∧ H8 = H7) (fun R0 hR0 => ?_) ?_
              · refine ⟨_, rfl, rfl, _, rfl, ifB (fun _ => hR0 _ _ ⟨⟨_, rfl⟩, rfl⟩) (fun _ => hR0 _ _ ⟨⟨_, rfl⟩, rfl⟩)⟩
              rintro σ H8 ⟨⟨want, rfl⟩, rfl⟩
              refine ⟨_, rfl, _, rfl, _, rfl, rixL (sqN t7) (top_at (n := 1) (by decide) rfl) ⟨_, rfl, by show 3 ≤ sizeLine; decide, fun p hp => ?_⟩⟩
              have sp := same_new (o := HO.tup [V.str wd.w, .int (a : Int), .str nm]) hp
              have hnd : Dp K (upd H8 p (HO.tup [V.str wd.w, .int (a : Int), .str nm])) (.ref p) (encNode (.one wd a nm)) := dp_new hp (.cons (.str _) (.cons (.int _) (.cons (.str _) .nil)))
              obtain ⟨w1, hw1⟩ := want_at (ws := ws) (n := 1) (by decide) (by rw [ex.len]; simp)
              have d8 := d7.same sp
              refine seq_via2 (fun σ H9 => (∃ want : Str, ∃ v nd, σ = [some (.ref bx.bx), some (.ref ua), some (.ref na), some (.int 12), some (.ref L), some (.ref A5), some (.ref A6), o7', some (.int (stp : Int)), some (.str want), o10, some (.str nm), some (.str wd.w), some v] ∧ Dp K H9 v (encNode nd) ∧ ops nd = [a] ∧ NodeOk nd ∧ ∀ v, nd ≠ Node.value v) ∧ Drawn bx H4 H9) (fun R0 hR0 => ?_) ?_
              · refine ⟨_, rfl, _, rfl, rixL (sqN (d8.at ex.b6 ex.wants)) hw1 ⟨rfl, _, rfl, ifB (fun _ => ?_) (fun _ => hR0 _ _ ⟨⟨_, _, _, rfl, hnd, rfl, hno nm hnm, fun v h => by cases h⟩, d8⟩)⟩⟩
                refine ⟨_, rfl, _, rfl, rixL (sqN (d8.at ex.b5 ex.tops)) (top_at (n := 1) (by decide) rfl) ⟨by show 2 ≤ sizeLine; decide, fun p2 hp2 => ?_⟩⟩
                exact hR0 _ _ ⟨⟨_, _, .not_ a, rfl, dp_new hp2 (.cons (.str _) (.cons (.int _) .nil)), rfl, trivial, fun v h => by cases h⟩, d8.same (same_new hp2)⟩
              rintro σ H9 ⟨⟨want, v, nd, rfl, hv, ho, hok, hnv⟩, hD9⟩
              refine ⟨_, rfl, .inl ⟨rfl, _, sqN (hD9.at hLb hxL)⟩, _, rfl, L, xs, _, rfl, rfl, hD9.at hLb hxL, szx, ?_⟩
              refine ⟨_, rfl, _, _, rfl, lenL (sqN (by rw [upd_ne ex.n5]; exact hD9.at ex.b5 ex.tops)), _, _, rfl, rfl, ?_⟩
              exact fin _ _ nd 1 hD9 hv h3 (grown1 ex.gr ho) hok (fun v hv => absurd hv (hnv v)) want _ _ _ _ _ _ (by rw [topsl]; omega)
            · refine ⟨_, rfl, bx, 6, rfl, by decide, hD5.box, fun q H6 hD6 hq => ?_⟩
              obtain ⟨c, hcat⟩ := want_sign hq
              have d6 := hD5.trans hD6
              refine rixS (by decide +kernel) hcat ⟨_, rfl, .inl ⟨rfl, _, sqN (d6.at hLb hxL)⟩, _, rfl, _, rfl, _, rfl, _, rfl, bx, ua, na, us, ns, _, rfl, d6.box, (hd.trans d6).strs hb hu, (hd.trans d6).strs hb hn, huo, hun, hno, hnn, fun v nd H7 hD7 hv ho hok hval => ?_⟩
              have d7 := d6.trans hD7
              refine ⟨L, xs, _, rfl, rfl, d7.at hLb hxL, szx, ?_⟩
              refine ⟨_, rfl, _, _, rfl, lenL (sqN (by rw [upd_ne ex.n5]; exact d7.at ex.b5 ex.tops)), ?_⟩
              exact fin _ _ nd 0 d7 hv (Nat.zero_le _) (grown0 ex.gr ho) hok hval _ _ _ _ _ _ _ (by rw [topsl]; omega)
      · rintro σ H5 ⟨nd, m, want, o7', o8', o11', o12', o13', rfl, hd5, ⟨xs5, hL5, hxs5⟩, t5, w5, hm, hg, hn1, hv1⟩
        have hx5 : xs5.length = e.length + 1 := by rw [enc_len hxs5]; simp
        refine ⟨_, rfl, _, rfl, _, rfl, slL (sqN t5) fun p H6 hS6 hp0 hp => ?_⟩
        refine ⟨_, rfl, _, _, rfl, lenL (sqN (hS6 _ _ hL5)), _, _, rfl, rfl, by show 1 ≤ sizeLine; decide, fun q hq => ?_⟩
        have sq := same_new (o := HO.lst [V.int ((xs5.length : Int) - 1)]) hq
        have s6 := hS6.trans sq
        have topsl : (rts.reverse.map fun t : Nat => V.int (t : Int)).length = rts.length := by rw [List.length_map, List.length_reverse]
        refine ⟨p, q, _, _, rfl, rfl, sq _ _ hp, upd_same, ?_, fun r hr' => ?_⟩
        · rw [cutV_take, List.length_take, topsl]
          exact szl (by simp; omega)
        have sr := same_new (o := HO.lst (cutV (rts.reverse.map fun t : Nat => V.int (t : Int)) none (some ((rts.length - m : Nat) : Int)) ++ [V.int ((xs5.length : Int) - 1)])) hr'
        have s7 := s6.trans sr
        refine ⟨_, rfl, _, rfl, _, rfl, slL (sqN (s7 _ _ w5)) fun p2 H8 hS8 hp20 hp2 => ⟨_, rfl, by show 1 ≤ sizeLine; decide, fun q2 hq2 => ?_⟩⟩
        have sq2 := same_new (o := HO.lst [V.str want]) hq2
        have s8 := s7.trans (hS8.trans sq2)
        refine ⟨p2, q2, _, _, rfl, rfl, sq2 _ _ hp2, upd_same, ?_, fun r2 hr2 => ?_⟩
        · rw [cutV_take, List.length_take, List.length_map, ex.len]
          exact szl (by simp; omega)
        have sr2 := same_new (o := HO.lst (cutV (ws.map V.str) none (some ((rts.length - m : Nat) : Int)) ++ [V.str want])) hr2
        have sA := s8.trans sr2
        have hrr := sr2 _ _ (sq2 _ _ (hS8 _ _ (upd_same (H := upd H6 q (HO.lst [V.int ((xs5.length : Int) - 1)])) (a := r) (o := HO.lst (cutV (rts.reverse.map fun t : Nat => V.int (t : Int)) none (some ((rts.length - m : Nat) : Int)) ++ [V.int ((xs5.length : Int) - 1)])))))
        refine ⟨r, r2, _, _, _, _, _, _, _, e ++ [nd], e.length :: rts.drop m, ws.take (rts.length - m) ++ [want], rfl, hd5.same sA, ⟨⟨xs5, sA _ _ hL5, dpAll_same sA hxs5⟩, ?_, ?_, ?_, ?_, ?_, ?_, ?_, hg, ?_⟩, by rw [List.length_append, hej]; rfl, ?_, fun _ h => by cases h⟩
        · rw [hrr, cutV_take, tops_cut hm, hx5]
          simp
        · rw [upd_same, cutV_take]
          simp
        · exact fun e => by rw [e, s6 _ _ hL5] at hr'; cases hr'
        · exact fun e => by rw [e, s8 _ _ hL5] at hr2; cases hr2
        · exact (hd5.same s6).box.ne hr'
        · exact (hd5.same s8).box.ne hr2
        · simp [ex.len]
        · intro x hx
          rcases List.mem_append.mp hx with h | h
          · exact ex.ok x h
          · rw [List.mem_singleton.mp h]; exact ⟨hn1, hv1⟩
        · simp
          omega
    · rintro σ H3 ⟨A5, A6, o7, o8, o9, o10, o11, o12, o13, e, rts, ws, rfl, hd, ex, hej, hrj, hr0⟩
      have hn13 : ((1 : Int) + (n : Nat)).toNat = n + 1 := by omega
      rw [hn13] at hej hrj hr0
      refine ⟨_, rfl, _, rfl, by omega, by omega, for_it walk_range (fun i σ H3 => ∃ A5 A6 o7 o8 o9 o10 o11 o12 o13 e rts ws, σ = [some (.ref bx.bx), some (.ref ua), some (.ref na), some (.int 12), some (.ref L), some (.ref A5), some (.ref A6), o7, o8, o9, o10, o11, o12, o13] ∧ Drawn bx H H3 ∧ Ex K H3 bx.bx L A5 A6 e rts ws ∧ e.length ≤ 12 + i ∧ rts ≠ [] ∧ (rts.length = 1 ∨ rts.length + i ≤ 12))
        ⟨A5, A6, _, _, _, _, _, _, _, e, rts, ws, rfl, hd, ex, by omega, hr0 (by omega), .inr (by omega)⟩ (fun _ _ _ _ _ => trivial) ?_ ?_⟩
      · rintro i x σ H3 H4 hi ⟨A5, A6, o7, o8, o9, o10, o11, o12, o13, e, rts, ws, rfl, hd, ex, hej, hr0, hri⟩ ⟨rfl, rfl⟩
        have hi12 : i < 12 := hi
        obtain ⟨xs, hxL, hxs⟩ := ex.nodes
        have hlx : xs.length = e.length := by rw [enc_len hxs]
        have topsl : (rts.reverse.map fun t : Nat => V.int (t : Int)).length = rts.length := by rw [List.length_map, List.length_reverse]
        refine ⟨_, rfl, _, _, rfl, lenL (sqN ex.tops), _, _, rfl, rfl, _, rfl, ifB (fun h => ?_) (fun h => ?_)⟩
        · rw [topsl] at h
          have h2 : 2 ≤ rts.length := by
            have := of_decide_eq_true h
            omega
          obtain ⟨a, b, r, rfl⟩ : ∃ a b r, rts = a :: b :: r := by
            match rts, h2 with
            | a :: b :: r, _ => exact ⟨a, b, r, rfl⟩
          obtain ⟨w1, hw1⟩ := want_at (ws := ws) (n := 2) (by decide) (by rw [ex.len]; simp)
          obtain ⟨w2, hw2⟩ := want_at (ws := ws) (n := 1) (by decide) (by rw [ex.len]; simp)
          refine ⟨_, rfl, .inl ⟨rfl, _, sqN hxL⟩, _, rfl, _, rfl, _, rfl, rixL (sqN ex.wants) hw1 ⟨_, rfl, _, rfl, rixL (sqN ex.wants) hw2 ⟨bx, w1, w2, rfl, hd.box, fun t H6 hD6 => ?_⟩⟩⟩
          have t6 := hD6.at ex.b5 ex.tops
          have w6 := hD6.at ex.b6 ex.wants
          refine ⟨_, rfl, _, rfl, rixL (sqN t6) (top_at (n := 2) (by decide) rfl) ⟨_, rfl, _, rfl, rixL (sqN t6) (top_at (n := 1) (by decide) rfl) ⟨by show 3 ≤ sizeLine; decide, fun p hp => ?_⟩⟩⟩
          have sp := same_new (o := HO.tup [V.str t.w, .int (b : Int), .int (a : Int)]) hp
          have hnd : Dp K (upd H6 p (HO.tup [V.str t.w, .int (b : Int), .int (a : Int)])) (.ref p) (encNode (.two t b a)) := dp_new hp (.cons (.str _) (.cons (.int _) (.cons (.int _) .nil)))
          have d6 := hD6.same sp
          have hL6 := d6.at hLb hxL
          refine ⟨L, xs, _, rfl, rfl, hL6, by rw [hlx]; exact szlt (by omega), ?_⟩
          have tp := d6.tps hd.box
          have tp2 := tps_put (o := HO.lst (xs ++ [.ref p])) hL6
          have dP := (hd.trans d6).put hb hL (o := HO.lst (xs ++ [.ref p]))
          have t7 : upd (upd H6 p (HO.tup [V.str t.w, .int (b : Int), .int (a : Int)])) L (HO.lst (xs ++ [.ref p])) A5 = some (.lst ((a :: b :: r).reverse.map fun t : Nat => V.int (t : Int))) := by rw [upd_ne ex.n5]; exact d6.at ex.b5 ex.tops
          have w7 : upd (upd H6 p (HO.tup [V.str t.w, .int (b : Int), .int (a : Int)])) L (HO.lst (xs ++ [.ref p])) A6 = some (.lst (ws.map V.str)) := by rw [upd_ne ex.n6]; exact d6.at ex.b6 ex.wants
          have L7 : upd (upd H6 p (HO.tup [V.str t.w, .int (b : Int), .int (a : Int)])) L (HO.lst (xs ++ [.ref p])) L = some (.lst (xs ++ [.ref p])) := upd_same
          have hxs7 : DpAll K (upd (upd H6 p (HO.tup [V.str t.w, .int (b : Int), .int (a : Int)])) L (HO.lst (xs ++ [.ref p]))) (xs ++ [.ref p]) ((e ++ [Node.two t b a]).map encNode) := by
            rw [List.map_append]
            exact dpAll_app (dpAll_tps tp2 (noLs_nodes _) (dpAll_tps tp (noLs_nodes _) hxs)) (.cons (dp_tps tp2 (noL_node _) hnd) .nil)
          generalize upd (upd H6 p (HO.tup [V.str t.w, .int (b : Int), .int (a : Int)])) L (HO.lst (xs ++ [.ref p])) = H7 at *
          have hx5 : (xs ++ [V.ref p]).length = e.length + 1 := by simp [hlx]
          have hcut : cutV ((a :: b :: r).reverse.map fun t : Nat => V.int (t : Int)) none (some (-2)) = (r.reverse.map fun t : Nat => V.int (t : Int)) := by
            have := cutV_takeN ((a :: b :: r).reverse.map fun t : Nat => V.int (t : Int)) 2 (by decide)
            rw [topsl, tops_cut (n := 2) h2] at this
            exact this
          have hcutw : cutV (ws.map V.str) none (some (-2)) = (ws.take (ws.length - 2)).map V.str := by
            have := cutV_takeN (ws.map V.str) 2 (by decide)
            rw [List.length_map, ← List.map_take] at this
            exact this
          refine ⟨_, rfl, _, rfl, _, rfl, slL (sqN t7) fun p5 H8 hS6 hp0 hp => ?_⟩
          rw [hcut] at hp
          refine ⟨_, rfl, _, _, rfl, lenL (sqN (hS6 _ _ L7)), _, _, rfl, rfl, by show 1 ≤ sizeLine; decide, fun q hq => ?_⟩
          have sq := same_new (o := HO.lst [V.int (((xs ++ [V.ref p]).length : Int) - 1)]) hq
          have s6 := hS6.trans sq
          have hrl : r.length ≤ 100 := by
            rcases hri with h | h
            · simp at h
            · simp at h; omega
          refine ⟨p5, q, _, _, rfl, rfl, sq _ _ hp, upd_same, ?_, fun q5 hr' => ?_⟩
          · rw [List.length_map, List.length_reverse]
            exact szl (by simp; omega)
          have sr := same_new (o := HO.lst ((r.reverse.map fun t : Nat => V.int (t : Int)) ++ [V.int (((xs ++ [V.ref p]).length : Int) - 1)])) hr'
          have s7 := s6.trans sr
          refine ⟨_, rfl, _, rfl, _, rfl, slL (sqN (s7 _ _ w7)) fun p2 H9 hS8 hp20 hp2 => ⟨by show 1 ≤ sizeLine; decide, fun q2 hq2 => ?_⟩⟩
          rw [hcutw] at hp2
          have sq2 := same_new (o := HO.lst [V.str "t"]) hq2
          have s8 := s7.trans (hS8.trans sq2)
          refine ⟨p2, q2, _, _, rfl, rfl, sq2 _ _ hp2, upd_same, ?_, fun r2 hr2 => ?_⟩
          · rw [List.length_map, List.length_take, ex.len]
            exact szl (by simp; omega)
          have sr2 := same_new (o := HO.lst ((ws.take (ws.length - 2)).map V.str ++ [V.str "t"])) hr2
          have sA := s8.trans sr2
          have hrr := sr2 _ _ (sq2 _ _ (hS8 _ _ (upd_same (H := upd H8 q (HO.lst [V.int (((xs ++ [V.ref p]).length : Int) - 1)])) (a := q5) (o := HO.lst ((r.reverse.map fun t : Nat => V.int (t : Int)) ++ [V.int (((xs ++ [V.ref p]).length : Int) - 1)])))))
          refine ⟨q5, r2, _, _, _, _, _, _, _, e ++ [Node.two t b a], e.length :: r, ws.take (ws.length - 2) ++ [("t" : Str)], rfl, dP.same sA, ⟨⟨_, sA _ _ L7, dpAll_same sA hxs7⟩, ?_, ?_, ?_, ?_, ?_, ?_, ?_, grown2 ex.gr rfl, ?_⟩, by rw [List.length_append]; simp; omega, (fun h => by cases h), ?_⟩
          · rw [hrr, hx5]
            simp
          · rw [upd_same]
            simp
          · exact fun e => by rw [e, s6 _ _ L7] at hr'; cases hr'
          · exact fun e => by rw [e, s8 _ _ L7] at hr2; cases hr2
          · exact (dP.same s6).box.ne hr'
          · exact (dP.same s8).box.ne hr2
          · have := ex.len
            simp at this ⊢
            omega
          · intro x hx
            rcases List.mem_append.mp hx with h | h
            · exact ex.ok x h
            · rw [List.mem_singleton.mp h]; exact ⟨trivial, fun v hv => by cases hv⟩
          · rcases hri with h | h
            · simp at h
            · simp at h ⊢; omega
        · rw [topsl] at h
          have h1 : rts.length = 1 := by
            have : rts.length ≠ 0 := fun e => hr0 (List.length_eq_zero_iff.mp e)
            have := of_decide_eq_false h
            omega
          exact ⟨A5, A6, _, _, _, _, _, _, _, e, rts, ws, rfl, hd, ex, by omega, hr0, .inl h1⟩
      · rintro σ H3 ⟨A5, A6, o7, o8, o9, o10, o11, o12, o13, e, rts, ws, rfl, hd, ex, hej, hr0, hri⟩
        have e12 : ((12 : Int)).toNat = 12 := rfl
        rw [e12] at hej hri
        obtain ⟨t, rfl⟩ : ∃ t, rts = [t] := by
          have h1 : rts.length = 1 := by
            rcases hri with h | h
            · exact h
            · have : rts.length ≠ 0 := fun e => hr0 (List.length_eq_zero_iff.mp e)
              omega
          exact List.length_eq_one_iff.mp h1
        obtain ⟨xs, hxL, hxs⟩ := ex.nodes
        have hne : e ≠ [] := by
          rintro rfl
          have := ex.gr.ch.1
          simp at this
        refine ⟨_, rfl, L, xs, rfl, .inl ⟨sqN hxL, fun p hp => k _ e _ (hd.same (same_new hp)) (dp_new hp hxs) ⟨⟨ex.gr.wf, hne, fun nd h => (ex.ok nd h).1⟩, by omega, fun nd h => (ex.ok nd h).2⟩⟩⟩
end
end FF
set_option Elab.async false
set_option linter.all false
set_option maxRecDepth 100000
set_option maxHeartbeats 4000000
namespace FF
open PySem PySem.Spec PyProof.Rows L2
open PySem.W (alike dataLt keyToks)
local macro_rules | `(tactic| walk_at "r") => `(tactic| repeat (first
   | refine ⟨_, rfl, ?_⟩
   | refine ⟨_, _, rfl, rfl, ?_⟩
   | refine ⟨rfl, ?_⟩
   | refine rixT (by assumption) rfl ?_
   | refine rixL (by assumption) rfl ?_
   | refine ifT (by decide +kernel) ?_
   | refine ifF (by decide +kernel) ?_))
section
variable {P : Program} {w : World} {K : PySem.W.Frag} {mg : Str → Option Value} {base : Heap}

theorem keyLt_eq (a b : Scal) : dataLt (keyD b) (keyD a) = if rank b = rank a then (if PyData.eqv (keyP b) (keyP a) = true then false else dataLt (keyP b) (keyP a)) else decide (rank b < rank a) := by
  have al : alike (.int (rank b)) (.int (rank a)) = true := by simp [alike]
  unfold keyD
  by_cases h : rank b = rank a
  · rw [if_pos h]
    exact (PySem.W.dataLt_pair al (keyP_alike h)).trans (by rw [if_pos (by simp [PyData.eqv, h])])
  · rw [if_neg h, PySem.W.dataLt_tuple, PySem.W.dataLt_all_no al (by simp [PyData.eqv]; omega), PySem.W.dataLt_int]
    simp
theorem scal_next {a b : Scal} (h : scalLe a b = true) (hn : a ≠ b) : scalBefore a b = true := by
  have h1 : dataLt (keyD b) (keyD a) = false := by
    have : (!dataLt (keyD b) (keyD a)) = true := h
    simpa using this
  rw [keyLt_eq] at h1
  have lt_of : ∀ x y : Str, ¬ x.cps.toList < y.cps.toList → y ≠ x → sLt y x = true := by
    intro x y h1 h2
    unfold sLt
    rw [decide_eq_true_eq]
    have h3 : y.cps.toList ≤ x.cps.toList := List.not_lt.mp h1
    rcases List.le_iff_lt_or_eq.mp h3 with h | h
    · exact h
    · exact absurd (PySem.W.str_of_cps h) h2
  cases a <;> cases b <;> simp [rank, keyP, scalBefore, PyData.eqv, PySem.W.dataLt_bool, PySem.W.dataLt_int, PySem.W.dataLt_str] at h1 hn ⊢
  · rename_i x y
    cases x <;> cases y <;> first | rfl | (exact absurd rfl hn) | (simp [b2i] at h1 ⊢)
  · have := h1 (fun e => hn e.symm); omega
  · exact lt_of _ _ (by have := h1 (fun e => hn e.symm); simpa using this) hn
  · exact lt_of _ _ (by have := h1 (fun e => hn e.symm); simpa using this) hn
theorem set_good {l : List Scal} (hn : l.Nodup) (hg : ∀ s ∈ l, ScalGood s) (hl : l.length ≤ 8) : ValGood (.st (l.mergeSort scalLe)) := by
  have hp := List.mergeSort_perm l scalLe
  refine ⟨by rw [hp.length_eq]; exact hl, fun s hs => hg s (hp.mem_iff.mp hs), fun i a b ha hb => ?_⟩
  have h1 := PySem.W.sort_pairwise scalLe_total l
  have hn2 : (l.mergeSort scalLe).Nodup := hp.nodup_iff.mpr hn
  obtain ⟨hi, ea⟩ := List.getElem?_eq_some_iff.mp ha
  obtain ⟨hj, eb⟩ := List.getElem?_eq_some_iff.mp hb
  have q1 := (List.pairwise_iff_getElem.mp h1) i (i + 1) hi hj (Nat.lt_succ_self i)
  have q2 := (List.pairwise_iff_getElem.mp hn2) i (i + 1) hi hj (Nat.lt_succ_self i)
  rw [ea, eb] at q1 q2
  exact scal_next q1 q2
theorem rank_no : ∀ r : Nat, r < 4 → ∀ m : Nat, m < r → eqV (([V.str "truth", .str "number", .str "text", .str "entity"] : List V).getD m .non) (V.str ((["truth", "number", "text", "entity"] : List Str).getD r "")) = false := by decide +kernel
theorem ok_law_key (T : Top w K mg) : O_law_key P w K mg base := by
  refine mk_ok (f_law_key T) sc_law_key rfl rfl (fun _ _ _ _ _ _ us hl => match us, hl with | [_], _ => rfl) (fun vs H Q E h => ?_) (fun f cdv A outer s H vs Q E hr h => ?_)
  · obtain ⟨v, s, rfl, _⟩ := h
    rfl
  · obtain ⟨v, s, rfl, hv, k⟩ := h
    have sc := sc_law_key
    refine ⟨_, (pss_one (ps_ret (pe_tup (pa_cons (pe_bm PySem.F.plainAttrs_list PySem.F.slot_list_index PySem.F.type_list_index mt_index (pe_lst (pa_cons pe_str (pa_cons pe_str (pa_cons pe_str (pa_cons pe_str pa_nil))))) (pa_cons (pe_ix ix_seq (pv 0) pe_int (fun _ _ => rfl)) pa_nil)) (pa_cons (pe_ix ix_seq (pv 0) pe_int (fun _ _ => rfl)) pa_nil))))), ?_⟩
    refine ⟨by show 4 ≤ sizeLine; decide, fun L hL => ⟨.inl ⟨rfl, _, sqN upd_same⟩, _, rfl, ?_⟩⟩
    have sL := same_new (o := HO.lst [V.str "truth", .str "number", .str "text", .str "entity"]) hL
    obtain ⟨a, x, y, rfl, ha, hx, hy⟩ : ∃ a x y, v = .ref a ∧ SqT K H a [.str x, y] ∧ x = (["truth", "number", "text", "entity"] : List Str).getD (rank s) "" ∧ Dp K H y (keyP s) := by
      cases s <;> (obtain ⟨a, x, y, rfl, ha, hx, hy⟩ := dp2 hv; obtain rfl := dpS hx; exact ⟨a, _, y, rfl, ha, rfl, hy⟩)
    have ha2 := sqT_same sL ha
    refine rixT ha2 rfl ⟨L, _, _, rank s, .str x, rfl, rfl, sqN upd_same, rfl, by decide +kernel, ?_, by simp [eqV], ?_, ?_⟩
    · subst hx
      cases s <;> rfl
    · subst hx
      intro m z hm hz
      have h4 : rank s < 4 := by cases s <;> simp [rank]
      have := rank_no (rank s) h4 m hm
      rw [List.getD, hz] at this
      exact this
    · refine ⟨_, rfl, rixT ha2 rfl ⟨by show 2 ≤ sizeLine; decide, fun p hp => k _ _ (sL.trans (same_new hp)) ?_⟩⟩
      have := dp_new (ds := [.int (rank s), keyP s]) hp (.cons (.int _) (.cons (dp_same sL hy) .nil))
      cases s <;> exact this
theorem room_in2 {A : Around} (h : Room 2 A) : Room 1 A.in1.in1 := ⟨h.hd, by have := h.dp; show A.depth + 3 * 1 + 5 < _; omega, by have := h.un; show A.units + 1 + 1 + 16 * 1 + 200 < _; omega⟩
theorem ok_law_set (T : Top w K mg) (h_law_key : O_law_key P w K mg base) : O_law_set P w K mg base := by
  refine mk_ok (f_law_set T) sc_law_set rfl rfl (fun _ _ _ _ _ _ us hl => match us, hl with | [_, _], _ => rfl) (fun vs H Q E h => ?_) (fun f cdv A outer s H vs Q E hr h => ?_)
  · obtain ⟨v, l, rfl, _⟩ := h
    rfl
  · obtain ⟨v, l, rfl, hv, hg, hl, k⟩ := h
    have sc := sc_law_set
    obtain ⟨a, xs, rfl, ha, hxs⟩ := dp_lst hv
    have hr2 := room_in2 hr
    refine ⟨_, (pss_cons (ps_set (i := 2) sc.nd rfl (Or.inl rfl) (pe_lst pa_nil))
      (pss_cons (ps_for PassesOwn.never rfl (pi_list (pv 0)) (pg_name (i := 3) sc.nd rfl (Or.inl rfl))
      (pss_one (ps_if (PW.pt (pw_and (pt_cmpR (op_notInS2 (u65 hr)) (pv 3) (pv 2) rfl) (pw_and1 (pt_cmpR L2.op_lt (pe_callB call_len (by rfl) (n_len T) PySem.boot_len (pa_cons (pv 2) pa_nil)) (pv 1) (nomark _)))))
        (pss_one (ps_expr (pe_bm PySem.F.plainAttrs_list PySem.F.slot_list_append PySem.F.type_list_append mt_append (pv 2) (pa_cons (pv 3) pa_nil))))
        pss_nil)))
      (pss_one (ps_ret (pe_tup (pa_cons pe_str (pa_cons (pe_callTy call_tuple_of (by rfl) (n_tuple T) (by decide +kernel) (pa_cons (pe_callBK (cr_sortKeyF h_law_key hr2) (by rfl) (n_sorted T) (by decide +kernel) (pa_cons (pv 2) pa_nil) (pk_cons (pe_gref (g_law_key T)) pk_nil)) pa_nil)) pa_nil))))))), ?_⟩
    have hxl := enc_len hxs
    refine ⟨Nat.zero_le _, fun L hL => ?_⟩
    have sL := same_new (o := HO.lst []) hL
    refine ⟨_, rfl, a, rfl, ⟨_, sqL_same sL ha⟩, for_it walk_list (fun i σ H1 => (∃ o3, σ = [some (.ref a), some (.int 8), some (.ref L), o3]) ∧ Same H H1 ∧ ∃ ys, ∃ m : List Scal, H1 L = some (.lst ys) ∧ DpAll K H1 ys (m.map encScal) ∧ m.Nodup ∧ (∀ s ∈ m, ScalGood s) ∧ m.length ≤ 8)
      ⟨⟨_, rfl⟩, sL, [], [], upd_same, .nil, List.nodup_nil, (fun s hs => by cases hs), Nat.zero_le _⟩ (fun _ _ _ _ h => sqL_same h.2.1 ha) ?_ ?_⟩
    · rintro i x σ H1 H2 hi ⟨⟨o3, rfl⟩, hS, ys, m, hL1, hys, hmn, hmg, hml⟩ ⟨rfl, hx⟩
      obtain ⟨d, hd, hxd⟩ := dpAll_at hxs hx
      obtain ⟨sc0, hsc, rfl⟩ := map_at hd
      have hg0 := hg sc0 (mem_at hsc)
      have hshl : SeqAt.shaped (.list (m.map encScal)) = true := by
        refine shp (by simp only [PyData.canLay0]; exact lay_all fun r hr => lay_scal (hmg r hr)) ?_
        have := dep_all (f := encScal) (l := m) (n := 1) fun x _ => Nat.le_of_eq (dep_scal x)
        simp only [PyData.depth]
        omega
      refine ⟨_, rfl, _, rfl, encScal sc0, m.map encScal, dp_same hS hxd, .inl (.lst (sqN hL1) hys), shp (lay_scal hg0) (by rw [dep_scal]; decide), hshl, _, rfl, ?_⟩
      rw [any_eqv eqv_scal]
      have keep : (∃ o3, [some (V.ref a), some (.int 8), some (.ref L), some x] = [some (V.ref a), some (.int 8), some (.ref L), o3]) ∧ Same H H2 ∧ ∃ ys, ∃ m : List Scal, H2 L = some (.lst ys) ∧ DpAll K H2 ys (m.map encScal) ∧ m.Nodup ∧ (∀ s ∈ m, ScalGood s) ∧ m.length ≤ 8 :=
        ⟨⟨_, rfl⟩, hS, ys, m, hL1, hys, hmn, hmg, hml⟩
      refine ifB (fun h1 => ⟨_, rfl, _, _, rfl, lenL (sqN hL1), _, rfl, _, _, rfl, rfl, _, rfl, ifB (fun h8 => ?_) (fun _ => keep)⟩) (fun _ => ifF rfl keep)
      have h1' : sc0 ∉ m := by simpa using h1
      have h8' : m.length < 8 := by
        have h9 : (ys.length : Int) < 8 := of_decide_eq_true h8
        rw [enc_len hys] at h9
        omega
      refine ⟨_, rfl, .inl ⟨rfl, _, sqN hL1⟩, _, rfl, L, _, _, rfl, rfl, hL1, by rw [enc_len hys]; exact szlt (by omega), ⟨_, rfl⟩, same_mut hS hL, ys ++ [x], m ++ [sc0], upd_same, ?_, ?_, ?_, by rw [List.length_append, List.length_singleton]; omega⟩
      · have tp := tps_put (o := HO.lst (ys ++ [x])) hL1
        rw [List.map_append]
        exact dpAll_app (dpAll_tps tp (noLs_scals _) hys) (.cons (dp_tps tp (noL_scal _) (dp_same hS hxd)) .nil)
      · rw [List.nodup_append]
        exact ⟨hmn, by simp, fun a ha b hb e => h1' (by rw [List.mem_singleton.mp hb] at e; exact e ▸ ha)⟩
      · intro z hz
        rcases List.mem_append.mp hz with h | h
        · exact hmg z h
        · rw [List.mem_singleton.mp h]; exact hg0
    · rintro σ H1 ⟨⟨o3, rfl⟩, hS, ys, m, hL1, hys, hmn, hmg, hml⟩
      refine ⟨_, rfl, L, ys, m, rfl, rfl, sqN hL1, hys, fun D zs H2 hS2 hD hzD hzs => ⟨D, zs, rfl, .inl ⟨sqN hzD, fun p hp => ⟨by show 2 ≤ sizeLine; decide, fun q hq => ?_⟩⟩⟩⟩
      exact k _ (.st (m.mergeSort scalLe)) _ (hS.trans (hS2.trans ((same_new hp).trans (same_new hq)))) (dp_new hq (.cons (.str _) (.cons (dp_new hp hzs) .nil))) (set_good hmn hmg hml)
end
end FF
set_option Elab.async false
set_option linter.all false
set_option maxRecDepth 100000
set_option maxHeartbeats 4000000
namespace FF
open PySem PySem.Spec PyProof.Rows L2
local macro_rules | `(tactic| walk_at "r") => `(tactic| repeat (first
   | refine ⟨_, rfl, ?_⟩
   | refine ⟨_, _, rfl, rfl, ?_⟩
   | refine ⟨rfl, ?_⟩
   | refine rixT (by assumption) rfl ?_
   | refine rixL (by assumption) rfl ?_
   | refine ifT (by decide +kernel) ?_
   | refine ifF (by decide +kernel) ?_))
section
variable {P : Program} {w : World} {K : PySem.W.Frag} {mg : Str → Option Value} {base : Heap}

def sp_law_alike (K : PySem.W.Frag) : Sp := fun vs H Q _ => ∃ v u ds n w, vs = [v, u] ∧ Dp K H v (.tuple ds) ∧ Dp K H u (.tuple ds) ∧ Sm (.tuple ds) n w ∧ n ≤ 60 ∧ w ≤ 1048576 ∧ Q (.bl true) H
abbrev O_law_alike (P : Program) (w : World) (K : PySem.W.Frag) (mg : Str → Option Value) (base : Heap) : Prop := FOkG P w K mg base 1 (He.ga K "_law_alike") ["_law_one", "_law_two"] (sp_law_alike K)
theorem ok_law_alike (T : Top w K mg) : O_law_alike P w K mg base := by
  refine mk_okG (f_law_alike T) sc_law_alike rfl rfl (fun _ _ _ _ _ _ us hl => match us, hl with | [_, _], _ => rfl) (fun vs H Q E h => ?_) (fun f cdv A outer s H vs Q E hr hg h => ?_)
  · obtain ⟨v, u, ds, n, wt, rfl, _⟩ := h
    rfl
  · obtain ⟨v, u, ds, n, wt, rfl, hv, hu, hs, hn, hw, k⟩ := h
    have sc := sc_law_alike
    refine ⟨_, (pss_one (ps_ret (pe_cmpR op_eq (pe_callB (cr_reprD hg (u65 hr)) (by rfl) (n_repr T) (by decide +kernel) (pa_cons (pv 0) pa_nil)) (pe_callB (cr_reprD hg (u65 hr)) (by rfl) (n_repr T) (by decide +kernel) (pa_cons (pv 1) pa_nil)) (nomark _)))), ?_⟩
    have hd : (PyData.tuple ds).depth ≤ 64 := Nat.le_trans hs.dep (by omega)
    refine ⟨_, rfl, v, ds, rfl, hv, hs.shw, hs.nod, hd, hs.fits hw, _, rfl, u, ds, rfl, hu, hs.shw, hs.nod, hd, hs.fits hw, rfl, ?_⟩
    rw [decide_eq_true rfl]
    exact k
theorem kind_ix {H : Hp} {p : Addr} {z : Str} {Q : VK} (hp : H p = none) (k : Q (.str (kindOf z)) (upd H p (.lst ((Txt.split z (":" : Str)).map V.str)))) : rIx K (.ref p) (.int 0) (upd H p (.lst ((Txt.split z (":" : Str)).map V.str))) Q := by
  have hL : SqL K (upd H p (.lst ((Txt.split z (":" : Str)).map V.str))) p ((splitC 58 z).map V.str) := by rw [← split_col]; exact SqL.of upd_same
  cases q : splitC 58 z with
  | nil => exact absurd q (splitC_ne _ _)
  | cons a r =>
    rw [q] at hL
    have e : kindOf z = a := by unfold kindOf; rw [q]; rfl
    rw [e] at k
    exact rixL hL (atI_nat (j := 0) rfl) k
def sp_law (K : PySem.W.Frag) : Sp := fun vs H Q _ => ∃ (a : Addr) (ns : List Int), vs = [.ref a] ∧ SqL K H a (ns.map V.int) ∧ ∀ H', Q (.bl true) H'
abbrev O_law (P : Program) (w : World) (K : PySem.W.Frag) (mg : Str → Option Value) (base : Heap) : Prop := FOkG P w K mg base 12 (He.ga K "law") ["_law_script"] (sp_law K)
theorem ok_law (T : Top w K mg) (h_Database_init : O_Database_init P w K mg base) (h_Database_many : O_Database_many P w K mg base) (h_law_alike : O_law_alike P w K mg base) (h_law_digits : O_law_digits P w K mg base) (h_law_entities : O_law_entities P w K mg base) (h_law_policies : O_law_policies P w K mg base) (h_law_pool : O_law_pool P w K mg base) (h_law_request : O_law_request P w K mg base) (h_law_uids : O_law_uids P w K mg base) (h_can_apply : O_can_apply P w K mg base) (h_decide : O_decide P w K mg base) (h_manifest : O_manifest P w K mg base) (h_slice_of : O_slice_of P w K mg base) : O_law P w K mg base := by
  refine mk_okG (f_law T) sc_law rfl rfl (fun _ _ _ _ _ _ us hl => match us, hl with | [_], _ => rfl) (fun vs H Q E h => ?_) (fun f cdv A outer s H vs Q E hr hg h => ?_)
  · obtain ⟨a, ns, rfl, _⟩ := h
    rfl
  · obtain ⟨a, ns, rfl, hS, k⟩ := h
    have sc := sc_law
    refine ⟨_, (pss_cons (ps_set (i := 1) sc.nd rfl (Or.inl rfl) (pe_lst (pa_cons (pe_u h_law_digits hr rfl (g_law_digits T) (pa_cons (pv 0) (pa_cons pe_int (pa_cons pe_int pa_nil)))) (pa_cons pe_int pa_nil))))
      (pss_cons (ps_set (i := 2) sc.nd rfl (Or.inl rfl) (pe_u h_law_uids hr rfl (g_law_uids T) (pa_cons (pv 1) (pa_cons pe_int pa_nil))))
      (pss_cons (ps_set (i := 3) sc.nd rfl (Or.inl rfl) (pe_u h_law_pool hr rfl (g_law_pool T) (pa_cons (pv 1) (pa_cons pe_int pa_nil))))
      (pss_cons (ps_set (i := 4) sc.nd rfl (Or.inl rfl) (pe_u h_law_policies hr rfl (g_law_policies T) (pa_cons (pv 1) (pa_cons (pv 2) (pa_cons (pv 3) (pa_cons pe_int (pa_cons pe_int pa_nil)))))))
      (pss_cons (ps_for PassesOwn.never rfl (pi_range1 rfl (n_range T) (pa_cons pe_int pa_nil)) (pg_name (i := 5) sc.nd rfl (Or.inl rfl))
      (pss_cons (ps_set (i := 6) sc.nd rfl (Or.inl rfl) (pe_mkU h_Database_init hr (mk_Database T) rfl (g_Database T) (pa_cons (pe_u h_law_entities hr rfl (g_law_entities T) (pa_cons (pv 1) (pa_cons (pv 2) (pa_cons (pv 3) pa_nil)))) pa_nil)))
        (pss_cons (ps_set (i := 7) sc.nd rfl (Or.inl rfl) (pe_u h_law_request hr rfl (g_law_request T) (pa_cons (pv 1) (pa_cons (pv 2) (pa_cons (pv 3) pa_nil)))))
        (pss_cons (ps_set (i := 8) sc.nd rfl (Or.inr rfl) (pe_tup (pa_cons (pe_ix ix_seq (pe_split (pe_ix ix_seq (pv 7) pe_int (fun _ _ => rfl)) pe_str) pe_int (fun _ _ => rfl)) (pa_cons (pe_ix ix_seq (pv 7) pe_int (fun _ _ => rfl)) (pa_cons (pe_ix ix_seq (pe_split (pe_ix ix_seq (pv 7) pe_int (fun _ _ => rfl)) pe_str) pe_int (fun _ _ => rfl)) pa_nil)))))
        (pss_cons (ps_set (i := 9) sc.nd rfl (Or.inl rfl) (pe_u h_slice_of hr rfl (g_slice_of T) (pa_cons (pv 6) (pa_cons (pv 7) (pa_cons (pe_u h_manifest hr rfl (g_manifest T) (pa_cons (pv 4) (pa_cons (pv 8) pa_nil))) pa_nil)))))
        (pss_cons (ps_if (pt_cmpR op_gt (pe_mU0 h_Database_many hr (cl_Database T) (me_Database_many T) (pv 9)) (pe_mU0 h_Database_many hr (cl_Database T) (me_Database_many T) (pv 6)) (nomark _))
        (pss_one (ps_ret pe_bl))
        pss_nil)
        (pss_cons (ps_setLc (i := 10) (own := [("_law_policy_here", 11)]) rfl sc.nd rfl rfl (sw_true rfl rfl rfl (by decide +kernel)) (pi_list (pv 4)) (blkOk_by (own := [("_law_policy_here", 11)]) (N := N_law) (sc := defScope s_law) (by decide +kernel)) (fun _ _ _ _ _ => (pg_name (i := 11) sc.nd rfl (Or.inl rfl))) (fun _ _ _ _ _ => (pts_one (pt_val (pe_u h_can_apply hr rfl (g_can_apply T) (pa_cons (pv 11) (pa_cons (pv 8) pa_nil)))))) (fun _ _ _ _ _ => (pv 11)))
        (pss_cons (ps_if (pt_not (pt_val (pe_uG h_law_alike hr hg rfl (g_law_alike T) (pa_cons (pe_u h_decide hr rfl (g_decide T) (pa_cons (pv 10) (pa_cons (pv 7) (pa_cons (pv 9) pa_nil)))) (pa_cons (pe_u h_decide hr rfl (g_decide T) (pa_cons (pv 10) (pa_cons (pv 7) (pa_cons (pv 6) pa_nil)))) pa_nil)))))
        (pss_one (ps_ret pe_bl))
        pss_nil)
        (pss_cons (ps_if (pt_not (pt_val (pe_uG h_law_alike hr hg rfl (g_law_alike T) (pa_cons (pe_ix ix_seq (pe_u h_decide hr rfl (g_decide T) (pa_cons (pv 4) (pa_cons (pv 7) (pa_cons (pv 9) pa_nil)))) pe_int (fun _ _ => rfl)) (pa_cons (pe_ix ix_seq (pe_u h_decide hr rfl (g_decide T) (pa_cons (pv 4) (pa_cons (pv 7) (pa_cons (pv 6) pa_nil)))) pe_int (fun _ _ => rfl)) pa_nil)))))
        (pss_one (ps_ret pe_bl))
        pss_nil)
        (pss_one (ps_if (pt_cmpR op_isN (pe_ix ix_seq (pe_u h_decide hr rfl (g_decide T) (pa_cons (pv 4) (pa_cons (pv 7) (pa_cons (pv 6) pa_nil)))) pe_int (fun _ _ => rfl)) pe_non (nomark _))
        (pss_one (ps_ret pe_bl))
        pss_nil)))))))))))
      (pss_one (ps_ret pe_bl))))))), ?_⟩
    refine ⟨_, rfl, a, ns, rfl, hS, fun D ds H1 hS1 hD hds => ⟨by show 2 ≤ sizeLine; decide, fun B hB => ?_⟩⟩
    have sB := same_new (o := HO.lst [V.ref D, .int 0]) hB
    have hbox : BoxAt (upd H1 B (HO.lst [V.ref D, .int 0])) ⟨B, D, ds⟩ := ⟨⟨0, upd_same⟩, sB _ _ hds⟩
    refine ⟨_, rfl, ⟨B, D, ds⟩, 8, rfl, by decide, hbox, fun U us H2 hD2 hU0 hU2 hus => ?_⟩
    refine ⟨_, rfl, ⟨B, D, ds⟩, 5, rfl, by decide, hD2.box, fun N nm H3 hD3 hN0 hN3 hns => ?_⟩
    have hUb := hbox.ne hU0
    have hNb := hD2.box.ne hN0
    have hU3 := hD3.at hUb hU2
    have hun : us ≠ [] := fun e => by have := hus.len; rw [e] at this; cases this
    have hnn : nm ≠ [] := fun e => by have := hns.len; rw [e] at this; cases this
    have hul := hus.len
    refine ⟨_, rfl, _, rfl, _, rfl, ⟨B, D, ds⟩, U, N, us, nm, rfl, hD3.box, sqN hU3, sqN hN3, hus.uid, hun, by omega, hns.name, hnn, fun Pl ps xs H4 hD4 hP0 hP4 hxs hpg => ?_⟩
    have hPb := hD3.box.ne hP0
    have hU4 := hD4.at hUb hU3
    have hN4 := hD4.at hNb hN3
    have hE : ∀ p ∈ ps, ExprOk p.cond := fun p hp => (hpg.all p hp).ok
    have hE2 : ∀ p ∈ ps, ExprOk p.cond ∧ p.cond.length ≤ 30 := fun p hp => ⟨(hpg.all p hp).ok, (hpg.all p hp).len⟩
    refine ⟨_, rfl, by decide, by decide, for_it walk_range (fun i σ Hc => (∃ o5 o6 o7 o8 o9 o10 o11, σ = [some (.ref a), some (.ref B), some (.ref U), some (.ref N), some (.ref Pl), o5, o6, o7, o8, o9, o10, o11]) ∧ Drawn ⟨B, D, ds⟩ H4 Hc)
      ⟨⟨_, _, _, _, _, _, _, rfl⟩, Drawn.refl hD4.box⟩ (fun _ _ _ _ _ => trivial) ?_ ?_⟩
    · rintro i z σ H5 H6 hi ⟨⟨o5, o6, o7, o8, o9, o10, o11, rfl⟩, hd⟩ ⟨rfl, rfl⟩
      have hU6 := hd.at hUb hU4
      have hN6 := hd.at hNb hN4
      have hP6 := hd.at hPb hP4
      refine ⟨_, rfl, _, rfl, _, rfl, ⟨B, D, ds⟩, U, N, us, nm, rfl, hd.box, sqN hU6, sqN hN6, hus, hns, fun F es ys H7 hD7 hF0 hF7 hys hok => ?_⟩
      intro x dx hx hdx hne
      have hS0 : Same H7 (upd (upd H7 dx (.own x)) x (.ins (CD K) dx [])) := (same_new hdx).trans (same_new (by rw [upd_ne (Ne.symm hne)]; exact hx))
      refine ⟨x, dx, .ref F, es, rfl, upd_same, dp_same hS0 (.lst (sqN hF7) hys), hok, fun H8 es1 hB8 hperm hdb => ⟨rfl, ?_⟩⟩
      have hS78 : Same H7 H8 := fun c o hc => by
        have n1 : c ≠ x := fun e => by rw [e, hx] at hc; cases hc
        exact hB8 c o n1 (hS0 c o hc)
      have d8 := (hd.trans hD7).same hS78
      have hU8 := d8.at hUb hU4
      have hN8 := d8.at hNb hN4
      refine ⟨_, rfl, _, rfl, _, rfl, ⟨B, D, ds⟩, U, N, us, nm, rfl, d8.box, sqN hU8, sqN hN8, hus, hns, fun rv rq H9 hD9 hrv hrq => ?_⟩
      have d9 := d8.trans hD9
      obtain ⟨ybx, hybx⟩ := d8.box.lst
      have hdb9 := db_but hD9.but hybx hdb
      have hP9 := d9.at hPb hP4
      have hxs9 := dpAll_tps (d9.tps hD4.box) (noLs_map noL_pol _) hxs
      obtain ⟨q, y1, y2, y3, y4, rfl, hq, g1, g2, g3, g4⟩ := dp4 hrv
      obtain rfl := dpS g1
      obtain rfl := dpS g2
      obtain rfl := dpS g3
      have hz1 : rq.p.length ≤ 100000 := by have := uid_len hrq.p; omega
      have hz3 : rq.r.length ≤ 100000 := by have := uid_len hrq.r; omega
      refine ⟨_, rfl, rixT hq rfl ⟨⟨_, rfl⟩, _, _, rfl, rfl, rfl, Nat.le_trans (Nat.add_le_add_right hz1 2) (by decide), fun p1 hp1 => ?_⟩⟩
      have s1 := same_new (o := .lst ((Txt.split rq.p (":" : Str)).map V.str)) hp1
      refine kind_ix hp1 ?_
      refine ⟨_, rfl, rixT (sqT_same s1 hq) rfl ⟨_, rfl, rixT (sqT_same s1 hq) rfl ⟨⟨_, rfl⟩, _, _, rfl, rfl, rfl, Nat.le_trans (Nat.add_le_add_right hz3 2) (by decide), fun p2 hp2 => ?_⟩⟩⟩
      have s2 := same_new (o := .lst ((Txt.split rq.r (":" : Str)).map V.str)) hp2
      refine kind_ix hp2 ⟨by show 3 ≤ sizeLine; decide, fun kp hkp => ?_⟩
      have s3 := same_new (o := HO.tup [V.str (kindOf rq.p), .str rq.a, .str (kindOf rq.r)]) hkp
      have hkd := dp_new (K := K) (ds := [.str (kindOf rq.p), .str rq.a, .str (kindOf rq.r)]) hkp (.cons (.str _) (.cons (.str _) (.cons (.str _) .nil)))
      have sA := s1.trans (s2.trans s3)
      have d10 := d9.same sA
      have hP10 := sA _ _ hP9
      have hxs10 := dpAll_same sA hxs9
      have hrv10 := dp_same sA hrv
      have hdb10 := db_same sA hdb9
      generalize hH10 : upd _ kp _ = H10 at *
      refine ⟨_, rfl, _, rfl, _, rfl, _, rfl, .ref Pl, .ref kp, ps, (kindOf rq.p, rq.a, kindOf rq.r), rfl, .lst (sqN hP10) hxs10, hkd, hpg, fun u H11 hS11 hu => ?_⟩
      refine ⟨x, .ref q, u, es1, rq, _, rfl, db_same hS11 hdb10, dp_same hS11 hrv10, hu, hrq, manM_ok hE, manM_b hE2 hpg.len, fun D2 H12 es2 hS12 hperm2 hdb2 => ?_⟩
      have sB12 := hS11.trans hS12
      have hdb12 := db_same sB12 hdb10
      obtain ⟨⟨dx2, t2, kv2, i1, i2, i3, i4⟩, ok2⟩ := id hdb2
      obtain ⟨⟨dx1, t1, kv1, j1, j2, j3, j4⟩, ok1⟩ := id hdb12
      refine ⟨_, rfl, D2, dx2, _, rfl, i1, rfl, D2, es2, rfl, hdb2, _, rfl, x, dx1, _, rfl, j1, rfl, x, es1, rfl, hdb12, ?_⟩
      have hlen2 : es2.length ≤ es1.length := by
        rw [hperm2.length_eq]
        have := (slice_uids es1 rq (manM ps (kindOf rq.p, rq.a, kindOf rq.r))).length_le
        simpa using this
      refine ⟨_, _, rfl, rfl, _, rfl, ifF (by simp; omega) ?_⟩
      have hP12 := sB12 _ _ hP10
      have hxs12 := dpAll_same sB12 hxs10
      have hxl := enc_len hxs12
      have hkd12 := dp_same sB12 hkd
      have hpl := hpg.len
      refine ⟨_, rfl, Pl, rfl, ⟨_, sqN hP12⟩, fun R hR => lc_it walk_list (fun i H2 => Same H12 H2 ∧ ∃ ws, H2 R = some (.lst ws) ∧ DpAll K H2 ws (((ps.take i).filter fun p => canApply p (kindOf rq.p, rq.a, kindOf rq.r)).map encPol)) ⟨same_new hR, [], upd_same, .nil⟩ (fun _ _ _ h => sqL_same h.1 (sqN hP12)) ?_ ?_⟩
      · rintro m y H13 H14 hm ⟨hS13, ws, hw, hws⟩ ⟨rfl, hy⟩
        obtain ⟨p, hp, hpd⟩ := enc_at hxs12 hy
        have hpp := hpg.all p (mem_at hp)
        have hml : m < ps.length := by rw [← hxl]; exact hm
        have hst : (ps.take (m + 1)).filter (fun p => canApply p (kindOf rq.p, rq.a, kindOf rq.r)) = (ps.take m).filter (fun p => canApply p (kindOf rq.p, rq.a, kindOf rq.r)) ++ (if canApply p (kindOf rq.p, rq.a, kindOf rq.r) = true then [p] else []) := by
          rw [List.take_add_one, hp, List.filter_append]
          simp [List.filter_cons]
        refine ⟨rfl, _, rfl, _, rfl, y, .ref kp, p, (kindOf rq.p, rq.a, kindOf rq.r), rfl, dp_same hS13 hpd, dp_same hS13 hkd12, hpp, fun H15 hS15 => ⟨_, rfl, ?_⟩⟩
        have hS135 := hS13.trans hS15
        have hw5 := hS15 _ _ hw
        refine ifB (fun hca => ?_) (fun hca => ?_)
        · have tp := tps_put (o := HO.lst (ws ++ [y])) hw5
          refine ⟨_, rfl, ws, hw5, ?_, same_mut hS135 hR, _, upd_same, ?_⟩
          · rw [enc_len hws]
            refine Nat.lt_of_le_of_lt (List.length_filter_le _ _) ?_
            rw [List.length_take]
            exact szlt (by omega)
          · rw [hst, if_pos hca, List.map_append]
            exact dpAll_app (dpAll_tps tp (noLs_map noL_pol _) (dpAll_same hS15 hws)) (.cons (dp_tps tp (noL_pol _) (dp_same hS135 hpd)) .nil)
        · refine ⟨hS135, ws, hw5, ?_⟩
          rw [hst, if_neg (by simpa using hca), List.append_nil]
          exact dpAll_same hS15 hws
      · rintro H13 ⟨hS13, ws, hw, hws⟩
        rw [List.take_of_length_le (by omega)] at hws
        have hks : PolsG (ps.filter fun p => canApply p (kindOf rq.p, rq.a, kindOf rq.r)) := ⟨fun p hp => hpg.all p (List.mem_filter.mp hp).1, Nat.le_trans (List.length_filter_le _ _) hpg.len⟩
        have hR13 : Dp K H13 (.ref R) (.list ((ps.filter fun p => canApply p (kindOf rq.p, rq.a, kindOf rq.r)).map encPol)) := .lst (sqN hw) hws
        have hrv13 := dp_same (sB12.trans hS13) hrv10
        have hP13 : Dp K H13 (.ref Pl) (.list (ps.map encPol)) := dp_same hS13 (.lst (sqN hP12) hxs12)
        have hdb13 := db_same hS13 hdb2
        have hdx13 := db_same hS13 hdb12
        refine ⟨_, rfl, _, rfl, _, rfl, .ref R, .ref q, D2, _, rq, es2, rfl, hR13, hrv13, hdb13, hks, hrq, fun u1 H14 hS14 hu1 => ?_⟩
        refine ⟨_, rfl, _, rfl, _, rfl, .ref R, .ref q, x, _, rq, es1, rfl, dp_same hS14 hR13, dp_same hS14 hrv13, db_same hS14 hdx13, hks, hrq, fun u2 H15 hS15 hu2 => ?_⟩
        rw [decide_kept ok1.nodup hperm2 hE] at hu1
        refine ⟨u1, u2, _, 4, 200000, rfl, dp_same hS15 hu1, hu2, (sm_decide ok1 hrq hks).2, by decide, by decide, _, rfl, ifF rfl ?_⟩
        have hS15' := hS14.trans hS15
        refine ⟨_, rfl, _, rfl, _, rfl, .ref Pl, .ref q, D2, ps, rq, es2, rfl, dp_same hS15' hP13, dp_same hS15' hrv13, db_same hS15' hdb13, hpg, hrq, fun u3 H16 hS16 hu3 => ?_⟩
        obtain ⟨c3, w1, w2, w3, rfl, hc3, m1, m2, m3⟩ := dp3 hu3
        have hS16' := hS15'.trans hS16
        refine rixT hc3 rfl ⟨_, rfl, _, rfl, _, rfl, .ref Pl, .ref q, x, ps, rq, es1, rfl, dp_same hS16' hP13, dp_same hS16' hrv13, db_same hS16' hdx13, hpg, hrq, fun u4 H17 hS17 hu4 => ?_⟩
        obtain ⟨c4, w4, w5, w6, rfl, hc4, m4, m5, m6⟩ := dp3 hu4
        rw [decide_all ok1.nodup hperm2 hE] at m1
        refine rixT hc4 rfl ⟨w1, w4, _, 3, 10000, rfl, dp_same hS17 m1, m4, (sm_decide ok1 hrq hpg).1, by decide, by decide, _, rfl, ifF rfl ?_⟩
        have hS17' := hS16'.trans hS17
        refine ⟨_, rfl, _, rfl, _, rfl, .ref Pl, .ref q, x, ps, rq, es1, rfl, dp_same hS17' hP13, dp_same hS17' hrv13, db_same hS17' hdx13, hpg, hrq, fun u5 H18 hS18 hu5 => ?_⟩
        obtain ⟨c5, w7, w8, w9, rfl, hc5, m7, m8, m9⟩ := dp3 hu5
        obtain ⟨c6, ws6, rfl, _, _⟩ := dp_tup m7
        refine rixT hc5 rfl ⟨rfl, _, rfl, ifF rfl ?_⟩
        exact ⟨⟨_, _, _, _, _, _, _, rfl⟩, (d10.same sB12).same (hS13.trans (hS17'.trans hS18))⟩
    · rintro σ H5 ⟨⟨o5, o6, o7, o8, o9, o10, o11, rfl⟩, hd⟩
      exact k _
end
end FF
set_option Elab.async false
set_option linter.all false
set_option maxRecDepth 100000
set_option maxHeartbeats 4000000
/-! the end -/
namespace FF
open PySem PySem.Spec PyProof.Rows L2
section
variable {P : Program} {w : World} {K : PySem.W.Frag} {mg : Str → Option Value} {base : Heap}
theorem all_ok (T : Top w K mg) : O_law P w K mg base := by
  have h_is_name := ok_is_name (P := P) (base := base) T 
  have h_is_uid := ok_is_uid (P := P) (base := base) T h_is_name
  have h_kind_of := ok_kind_of (P := P) (base := base) T 
  have h_check_uid := ok_check_uid (P := P) (base := base) T h_is_uid
  have h_is_rising := ok_is_rising (P := P) (base := base) T 
  have h_is_text := ok_is_text (P := P) (base := base) T 
  have h_is_scalar := ok_is_scalar (P := P) (base := base) T h_is_text h_is_uid
  have h_scalar_before := ok_scalar_before (P := P) (base := base) T 
  have h_is_value := ok_is_value (P := P) (base := base) T h_is_scalar h_scalar_before
  have h_are_named := ok_are_named (P := P) (base := base) T h_is_name h_is_rising h_is_value
  have h_value_named := ok_value_named (P := P) (base := base) T 
  have h_context_value := ok_context_value (P := P) (base := base) T h_value_named
  have h_check_parents := ok_check_parents (P := P) (base := base) T h_check_uid.1 h_is_rising
  have h_check_entity := ok_check_entity (P := P) (base := base) T h_check_parents h_are_named h_check_uid.2
  have h_Database_entities := ok_Database_entities (P := P) (base := base) T 
  have h_Database_many := ok_Database_many (P := P) (base := base) T 
  have h_Database_attribute := ok_Database_attribute (P := P) (base := base) T h_value_named
  have h_Database_parents := ok_Database_parents (P := P) (base := base) T 
  have h_Database_ancestors := ok_Database_ancestors (P := P) (base := base) T h_Database_parents
  have h_Database_tell := ok_Database_tell (P := P) (base := base) T h_Database_ancestors h_Database_attribute
  have h_Database_init := ok_Database_init (P := P) (base := base) T h_check_entity
  have h_operands := ok_operands (P := P) (base := base) T 
  have h_starts := ok_starts (P := P) (base := base) T h_operands
  have h_roles := ok_roles (P := P) (base := base) T h_operands
  have h_join_reads := ok_join_reads (P := P) (base := base) T 
  have h_truth := ok_truth (P := P) (base := base) T 
  have h_ask := ok_ask (P := P) (base := base) T h_Database_tell
  have h_leaf := ok_leaf (P := P) (base := base) T h_context_value h_truth
  have h_attribute := ok_attribute (P := P) (base := base) T h_ask h_truth
  have h_one := ok_one (P := P) (base := base) T h_attribute h_kind_of h_truth
  have h_uids := ok_uids (P := P) (base := base) T 
  have h_within := ok_within (P := P) (base := base) T h_uids h_ask h_truth
  have h_two := ok_two (P := P) (base := base) T h_within h_truth
  have h_is_passed_on := ok_is_passed_on (P := P) (base := base) T 
  have h_Walk_init := ok_Walk_init (P := P) (base := base) T h_roles h_starts
  have h_Walk_outcome := ok_Walk_outcome (P := P) (base := base) T h_leaf h_one h_two h_operands
  have h_Walk_settle := ok_Walk_settle (P := P) (base := base) T h_is_passed_on
  have h_Walk_behind := ok_Walk_behind (P := P) (base := base) T 
  have h_Walk_run := ok_Walk_run (P := P) (base := base) T h_Walk_behind h_Walk_outcome h_Walk_settle
  have h_evaluate := ok_evaluate (P := P) (base := base) T h_Walk_init h_Walk_run
  have h_split_path := ok_split_path (P := P) (base := base) T 
  have h_extended := ok_extended (P := P) (base := base) T 
  have h_paths_of := ok_paths_of (P := P) (base := base) T h_extended h_join_reads
  have h_node_paths := ok_node_paths (P := P) (base := base) T h_paths_of
  have h_expression_manifest := ok_expression_manifest (P := P) (base := base) T h_extended h_join_reads h_node_paths
  have h_root_uid := ok_root_uid (P := P) (base := base) T h_context_value h_is_uid
  have h_follow := ok_follow (P := P) (base := base) T h_Database_tell h_root_uid
  have h_ends := ok_ends (P := P) (base := base) T h_follow h_split_path
  have h_named_reads := ok_named_reads (P := P) (base := base) T h_ends h_join_reads
  have h_hierarchy := ok_hierarchy (P := P) (base := base) T h_Database_ancestors
  have h_slice_of := ok_slice_of (P := P) (base := base) T h_Database_init h_Database_entities h_hierarchy h_named_reads
  have h_in_scope := ok_in_scope (P := P) (base := base) T h_Database_tell h_kind_of h_truth
  have h_condition_state := ok_condition_state (P := P) (base := base) T 
  have h_fits := ok_fits (P := P) (base := base) T h_kind_of
  have h_can_apply := ok_can_apply (P := P) (base := base) T h_fits
  have h_policy_state := ok_policy_state (P := P) (base := base) T h_condition_state h_evaluate h_in_scope h_join_reads
  have h_decision := ok_decision (P := P) (base := base) T 
  have h_decide := ok_decide (P := P) (base := base) T h_decision h_join_reads h_policy_state
  have h_join_manifests := ok_join_manifests (P := P) (base := base) T h_join_reads
  have h_policy_manifest := ok_policy_manifest (P := P) (base := base) T h_expression_manifest h_join_manifests
  have h_manifest := ok_manifest (P := P) (base := base) T h_can_apply h_join_manifests h_policy_manifest
  have h_law_cell := ok_law_cell (P := P) (base := base) T 
  have h_law_digits := ok_law_digits (P := P) (base := base) T h_law_cell
  have h_law_draw := ok_law_draw (P := P) (base := base) T 
  have h_law_key := ok_law_key (P := P) (base := base) T 
  have h_law_set := ok_law_set (P := P) (base := base) T h_law_key
  have h_law_name := ok_law_name (P := P) (base := base) T h_law_draw
  have h_law_pool := ok_law_pool (P := P) (base := base) T h_law_name
  have h_law_uids := ok_law_uids (P := P) (base := base) T h_law_draw h_law_pool
  have h_law_number := ok_law_number (P := P) (base := base) T h_law_draw
  have h_law_text := ok_law_text (P := P) (base := base) T h_law_draw
  have h_law_scalar := ok_law_scalar (P := P) (base := base) T h_law_draw h_law_number h_law_text
  have h_law_scope := ok_law_scope (P := P) (base := base) T h_law_draw
  have h_law_pair := ok_law_pair (P := P) (base := base) T h_law_draw
  have h_law_kinds := ok_law_kinds (P := P) (base := base) T 
  have h_law_value := ok_law_value (P := P) (base := base) T h_law_draw h_law_scalar h_law_set
  have h_law_leaf := ok_law_leaf (P := P) (base := base) T h_law_draw h_law_set h_law_value
  have h_law_request := ok_law_request (P := P) (base := base) T h_law_draw h_law_value
  have h_law_entities := ok_law_entities (P := P) (base := base) T h_law_draw h_law_value
  have h_law_expression := ok_law_expression (P := P) (base := base) T h_law_draw h_law_leaf h_law_pair
  have h_law_alike := ok_law_alike (P := P) (base := base) T 
  have h_law_policy := ok_law_policy (P := P) (base := base) T h_law_draw h_law_expression h_law_kinds h_law_scope
  have h_law_policies := ok_law_policies (P := P) (base := base) T h_law_draw h_law_policy h_law_pool
  have h_law := ok_law (P := P) (base := base) T h_Database_init h_Database_many h_law_alike h_law_digits h_law_entities h_law_policies h_law_pool h_law_request h_law_uids h_can_apply h_decide h_manifest h_slice_of
  exact h_law
end
/-- the law's call, at the heap behind the top -/
theorem law_end {P : Program} {w : World} {K : PySem.W.Frag} {mg mb : Str → Option Value} {s1 : Shared} {fa a : Addr} {vs : List Value} {ns : List Int} (T : Top w K mg) (hfa : mg "law" = some (.ref fa)) (KX : K.In s1.heap) (hm : s1.heap.Ns mainGlobals mg)
    (hb : s1.heap.Ns builtinsNs mb) (hbb : ∀ x : Str, x ≠ "__name__" → mb x = bootBuiltins x) (hlim : s1.heap.NoLimit) (hgn : s1.gens = #[]) (ha : s1.heap.get? a = some { cls := .type "list", data := .seq vs.toArray }) (hi : IntsAre vs ns) (hl : ns.length ≤ sizeLine) :
    codeAny (model P w) callerA (.call (.ref fa) ⟨[.ref a], []⟩) (fun r s' => r = .ok (.ret (.bool true)) ∧ PySem.OldK s1.heap s'.heap ∧ s'.os = s1.os ∧ AllBare s'.gens) s1 := by
  have e := hfa.symm.trans (g_law T)
  cases e
  have rv := vals_ints hi
  have lv := hi.length
  let u : HO := .frz { cls := .type "list", data := .seq vs.toArray } (.lst (ns.map V.int))
  let H : Hp := fun b => if b = a ∧ K.lookup a = none then some u else none
  have Hn : ∀ {b : Addr} {z : HO}, H b = some z → b = a ∧ K.lookup a = none ∧ z = u := fun {b z} hz => by
    by_cases hc : b = a ∧ K.lookup a = none
    · have : H b = some u := if_pos hc
      rw [this] at hz
      exact ⟨hc.1, hc.2, (Option.some.inj hz).symm⟩
    · have : H b = none := if_neg hc
      rw [this] at hz
      cases hz
  have free : ∀ {b : Addr}, (b = a → K.lookup a ≠ none) → H b = none := fun {b} h => if_neg fun ⟨h1, h2⟩ => h h1 h2
  have hok : HOk P w H s1.heap := fun b z hz => by
    obtain ⟨rfl, _, rfl⟩ := Hn hz
    exact ⟨ha, by rw [List.length_map]; exact hl, vs, _, rv, ha⟩
  have hS : SqL K H a (ns.map V.int) := by
    cases hk : K.lookup a with
    | none => exact .inl (.inr ⟨_, if_pos ⟨rfl, hk⟩⟩)
    | some o =>
      have e := KX a o hk
      rw [ha] at e
      cases e
      exact .inr ⟨_, vs.toArray, _, hk, rfl, rfl, rfl, by rw [List.size_toArray, lv]; exact hl, by simpa using rv⟩
  have nsK : ∀ {b : Addr} {m : Str → Option Value}, s1.heap.Ns b m → (hidT s1.heap H).Ns b m := fun {b m} ⟨o, es, ep, q, d, r⟩ => ⟨o, es, ep, hidT_get q (free fun z => by
    rw [z, ha] at q
    cases q
    cases d), d, r⟩
  have hK : K.In (hidT s1.heap H) := fun b o q => hidT_get (KX b o q) (free fun z hn => by rw [z, hn] at q; cases q)
  have hM : Mod K mg (hidT s1.heap H) := ⟨hK, nsK hm, ⟨mb, nsK hb, hbb⟩, let ⟨mc, h1, h2⟩ := hlim; ⟨mc, nsK h1, h2⟩⟩
  have e0 : Env0 P w K mg (hidT s1.heap H) callerA [] s1 H := ⟨rfl, hM, fun b o q => of_hidT q, Nat.le_of_eq (hidT_size _ _), trivial, fun b q => (nomatch (show b ∈ ([] : List Addr) from q)), hok, .of_eq hgn⟩
  obtain ⟨⟨fd, F, bd⟩, _⟩ := all_ok (P := P) (base := hidT s1.heap H) T
  refine codeAny_mono (F.go callerA [] s1 H ⟨[.ref a], []⟩ [.ref a] [.ref a] (fun v _ => v = .bl true) E0 ⟨rfl, by decide, by decide⟩ rfl e0 (bd s1 [.ref a] rfl) (.cons rfl .nil) ⟨a, ns, rfl, hS, fun _ => rfl⟩) fun r s' h => ?_
  cases r with
  | error z => exact False.elim h
  | ok fl =>
    cases fl with
    | next => exact False.elim h
    | brk => exact False.elim h
    | cont => exact False.elim h
    | ret z =>
      obtain ⟨v, H', hos, bare, un, hok', rz, rfl⟩ := h
      obtain rfl : z = Value.bool true := rz
      refine ⟨rfl, PySem.OldK.of_keep fun b o q => ?_, hos, bare⟩
      cases hb : H b with
      | none => exact un.keep b o q hb (fun z => (nomatch (show b ∈ ([] : List Addr) from z))) (by simp)
      | some z =>
        obtain ⟨rfl, _, rfl⟩ := Hn hb
        obtain ⟨q2, _⟩ := hok' _ _ (un.frzs _ _ _ hb)
        rw [ha] at q
        cases q
        exact q2
end FF
open PySem PySem.W PySem.Calls PyProof.Rows
theorem PySem.Challenge.cw_farfacts_k48_slices_decide_alike_holds : PySem.Challenge.rw_farfacts_k48_slices_decide_alike.Holds := by
  w_on; o_law
  refine HandSHeadRun.head_any (r := FF.hdR) (q := FF.qL) (H := FF.hookM) (ob := FF.hdOb) (M := 20000) (loose := FF.lo) (d := HandSHeadRun.topDef FF.hdR.prog 112) (kwd := []) FF.hdOb_eq
    (by kernel_rfl) (fun s => by kernel_rfl) FF.hdRun (by kernel_rfl) (by kernel_rfl) (by kernel_rfl) (by rfl) (by first | assumption | decide +kernel) (by decide +kernel) ⟨rfl, rfl, rfl, rfl, rfl, by decide +kernel⟩ ?hw ?hc
  case hw => w_witness2
  case hc =>
    refine Att.attach_call (l := PySem.Challenge.rw_farfacts_k48_slices_decide_alike) (n := 63) rfl (by kernel_rfl) fun w s0 s1 mg mb fa o pm cd doc a vs ns G Y ho hd hcd hmg0 hobj hints hlen hg => ?_
    obtain ⟨K, KX, c, ex⟩ := Y
    have hmg : mg ("law" : PySem.Str) = some (.ref fa) := by
      have e : (HandSHeadRun.topDef FF.hdR.prog 112).name = ("law" : PySem.Str) := by kernel_rfl
      rw [← e]
      exact hmg0
    exact FF.law_end (K := K) ⟨⟨_, KX, G.T.g⟩, c, ex⟩ hmg KX G.T.g G.T.b G.T.builtins G.T.nolimit hg hobj hints (Nat.le_trans hlen (by decide))
