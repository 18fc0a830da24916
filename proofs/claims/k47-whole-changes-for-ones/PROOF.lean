import PyProof.Rows.All
import Wide.All
import OpenK.AllK
import Wide.FinOn
import HandS.ForMost
import HandS.Zip
import HandS.Zip0
import HandS.Walk
import PyProof.Draws
import PyProof.EnumMake
import PyProof.EnumFor
import PyProof.EnumIter
import HandS.TupAny
import HandS.TupMul
import HandS.SortRule
import KE.KStateDown
import HandS.ForExc
import HandS.Conv
import HandS.IsInst
import HandS.TupSets
import HandS.Deep
import HandS.Wide
import HandS.Flow
import HandS.Defaults
import HandS.SortInts
import HandS.SetFor
import HandS.TryOnly
import HandS.ExcOwn
import HandS.Head0
import HandS.Head1
import HandS.Head2
import HandS.HeadEnd
import HandS.HeadHook1
import HandS.HeadHook2
import PyProof.ListMulRoad
import PyProof.FactsAll.tuple_2
import HandS.HeadWalk
import HandS.Style
import HandS.CallLocal
import HandS.ExcValue
import HandS.ExcIs
import KE.KExcIs
import HandS.SortOrd
import PyProof.ReprRoads
import HandS.EndBits
import HandS.Text
import KE.KDictZip
import HandS.ListItems
import PySem.Challenge.RW_followmost_k47_whole_changes_for_ones
set_option Elab.async false
set_option linter.all false
set_option maxRecDepth 100000
set_option maxHeartbeats 4000000
/-! enumerate of a tuple -/
namespace PySem
open Sem (wp)
open AutoSeq1 (wpAny_loadPart')
theorem meets_enumerate_newT (l : Addr) (items : Array Value) (n : Nat) (dct : Option Addr) (sl : Array (Option Value)) :
    Meets (Builtin.«enumerate.__new__» ⟨[.type "enumerate", .ref l], []⟩) (fun _ R s => s.heap.get? l = some { cls := .type "tuple", dict := dct, data := .seq items n, slots := sl } ∧
      R (.ok (.ret (.ref (s.heap.push { cls := .type "tuple_iterator", data := .fields #[.ref l, .int 0 0] }).objs.size)))
        { s with heap := (s.heap.push { cls := .type "tuple_iterator", data := .fields #[.ref l, .int 0 0] }).push { cls := .type "enumerate", data := .fields #[.none, .bool false, .ref s.heap.objs.size, rawInt 0, .none, .none] } }) :=
  .of_wp fun prog w A R s h => by
    obtain ⟨hp, g, d, tk, os⟩ := s; obtain ⟨hl, h⟩ := h
    have hsub := sub_enumerate
    have hL : Heap.IsTuple (Shared.heap ⟨hp, g, d, tk, os⟩) l items := ⟨_, hl, rfl, n, rfl⟩
    wp_walk using wpAny_loadPart' hl
    refine wpAny_stack_any fun st => wpAny_pure ?_
    split
    · rename_i c _ _ _ _ _
      cases (c == Value.type "enumerate")
      · wp_walk using wpAny_loadPart' hl, wpAny_pyIter_tuple hL
        exact ⟨_, rfl, h⟩
      · wp_walk using wpAny_loadPart' hl, wpAny_pyIter_tuple hL
        exact ⟨_, rfl, h⟩
    · wp_walk using wpAny_loadPart' hl, wpAny_pyIter_tuple hL
      exact ⟨_, rfl, h⟩
section
variable {prog : Program} {w : World} {A : Around} {E : Value → Shared → Prop} {s : Shared}
theorem call_enumerate_tuple {l : Addr} {items : Array Value} {Q : Value → Shared → Prop} (hL : s.heap.IsTuple l items)
    (h : ∀ h', IsEnum h' (s.heap.objs.size + 1) s.heap.objs.size 0 .none → h'.IsTupleIter s.heap.objs.size l 0 → h'.objs.size = s.heap.objs.size + 2 →
      (∀ b o, s.heap.get? b = some o → h'.get? b = some o) → Q (.ref (s.heap.objs.size + 1)) { s with heap := h' }) :
    wpAny (model prog w) A (call (.type "enumerate") [.ref l]) Q E s := by
  obtain ⟨⟨c, dct, dt, sl⟩, hl, hc, n, hd⟩ := hL
  replace hc : c = .type "tuple" := hc
  replace hd : dt = .seq items n := hd
  subst hc hd
  refine callType_new F.called_enumerate (by decide) (F.typeCall_enumerate_1 _) (F.newCall_enumerate_1 _) (fun obj => F.args_object_init_2 obj _) F.entry_enumerate_new
    (meets_enumerate_newT l items n dct sl) ⟨hl, ?_⟩
  have hz : (s.heap.push { cls := .type "tuple_iterator", data := .fields #[.ref l, .int 0 0] }).objs.size = s.heap.objs.size + 1 := Heap.size_push ..
  show _ ∧ _
  rw [hz]
  have he : IsEnum ((s.heap.push { cls := .type "tuple_iterator", data := .fields #[.ref l, .int 0 0] }).push
      { cls := .type "enumerate", data := .fields #[.none, .bool false, .ref s.heap.objs.size, rawInt 0, .none, .none] }) (s.heap.objs.size + 1) s.heap.objs.size 0 .none := by
    have := Heap.get?_push_size (s.heap.push { cls := .type "tuple_iterator", data := .fields #[.ref l, .int 0 0] })
      (o := { cls := .type "enumerate", data := .fields #[.none, .bool false, .ref s.heap.objs.size, rawInt 0, .none, .none] }) rfl
    rw [hz] at this; exact this
  refine ⟨⟨_, he, rfl⟩, h _ he ⟨_, Heap.get?_push_of_some _ (Heap.get?_push_size _ rfl), rfl, rfl⟩ (by rw [Heap.size_push, hz]) fun b o x => Heap.get?_push_of_some _ (Heap.get?_push_of_some _ x)⟩
end
theorem drawsT {prog : Program} {w : World} {A : Around} (hh : A.handled = none) (it l : Addr) (hne : l ≠ it) (items : Array Value) :
    Draws prog w A it [it, l] items.size (fun i v => items[i]? = some v) (fun i h => h.IsTupleIter it l i ∧ h.IsTuple l items) where
  live := fun _ _ st => let ⟨o, ho, _⟩ := st.1; ⟨o, ho⟩
  frame := fun _ _ _ st hk => ⟨st.1.at fun o e => hk it (by simp) o e, st.2.at fun o e => hk l (by simp) o e⟩
  item := fun i s Q E hi st hQ => by
    refine RZ.nextOf_tuple_item st.1 st.2 (x := items[i]) (by simp [hi]) fun h' hit' hs' => ?_
    exact hQ _ h' s.toks (by simp [hi]) ⟨hit', st.2.extBut hs'.extBut hne⟩ hs'
  done := fun s Q E st hE => RZ.nextOf_tuple_end hh st.1 st.2 (by simp) hE
end PySem
namespace L2
open PySem PySem.Spec PyProof.Rows
/-- the tuple at a, each item in a new pair -/
def IteT (K : PySem.W.Frag) (a : Addr) : It :=
  ⟨fun i H => ∃ (xs : List V) (x : V), SqT K H a xs ∧ xs[i]? = some x, fun i H v H' => ∃ T x, v = .ref T ∧ H T = none ∧ H' = upd H T (.tup [.int (i : Nat), x]) ∧ ∀ xs, SqT K H a xs → xs[i]? = some x, fun i H => ∃ xs : List V, SqT K H a xs ∧ xs.length ≤ i⟩
theorem turn_enumT {P : Program} {w : World} {K : PySem.W.Frag} {elts : List Expr} {kk : Nat} {tpos : Pos} (a e it : Addr) (hai : a ≠ it) (hae : a ≠ e) :
    Turn P w K (.Tuple elts kk tpos) (IteT K a) [e, it] e (fun i h => (∃ old, IsEnum h e it ((i : Nat) : Int) old) ∧ h.IsTupleIter it a i ∧ e ≠ it) where
  mem := by simp
  obj := fun i h st b hb => by
    obtain ⟨⟨old, he⟩, ⟨o, ho, hc, hd⟩, _⟩ := st
    have e' : b = e ∨ b = it := by simpa using hb
    rcases e' with z | z
    · rw [z]; exact ⟨_, he, fun v q => nomatch q⟩
    · rw [z]; exact ⟨o, ho, fun v q => by rw [hd] at q; cases q⟩
  keep := fun i h h' st k => let ⟨⟨old, he⟩, hi, hne⟩ := st; ⟨⟨old, k e (by simp) _ he⟩, hi.at fun o q => k it (by simp) o q, hne⟩
  item := by
    intro X hP hw hK hc i pins s σ H E I hf st hg
    subst hP hw hK
    obtain ⟨⟨old, he⟩, hit, hne⟩ := st
    obtain ⟨xs, x, hq, hx⟩ := hg
    obtain ⟨its, rv, p, hz⟩ := I.tuple hq
    obtain ⟨u, hu, ru⟩ := rv.get hx
    have hel : e < s.heap.objs.size := Heap.lt_size he
    have hil : it < s.heap.objs.size := by obtain ⟨_, q, _⟩ := hit; exact Heap.lt_size q
    have hlt : i < its.toArray.size := by
      have := (List.getElem?_eq_some_iff.mp hu).1
      simpa using this
    refine wpAny_pyNext_enum_itemD (drawsT (A := X.A.in1) (I.ok.hd hc) it a hai its.toArray) he ⟨hit, p⟩ hlt hne (by simp; exact ⟨hne, fun z => hae z.symm⟩) fun y h' tk hy ho hit' hT hsz hk => ?_
    have ey : y = u := by
      have hu' : its.toArray[i]? = some u := by simpa using hu
      rw [hu'] at hy
      exact (Option.some.inj hy).symm
    subst ey
    refine ⟨_, rfl, wpAny_letOwnedTupleGo_enum (s := { s with heap := h', toks := tk + 1 }) ho fun h'' he' sb => ?_⟩
    have hT2 : h''.get? s.heap.objs.size = some { cls := .type "tuple", data := .seq #[.int i tk, y] } := (sb.2 _ (Nat.ne_of_gt hel)).trans hT
    have new : ObjOk X.prog X.w (upd H s.heap.objs.size (.tup [.int (i : Nat), x])) h'' s.heap.objs.size (.tup [.int (i : Nat), x]) :=
      ⟨by show 2 ≤ sizeLine; decide, [.int i tk, y], .cons ⟨_, rfl⟩ (.cons ru .nil), ⟨_, hT2, rfl, _, rfl⟩⟩
    have I1 : Inv X pins σ (upd H s.heap.objs.size (.tup [.int (i : Nat), x])) { s with heap := h'', toks := tk + 1 } :=
      I.turnedNew (ch := [e, it]) (fun b ob hb q => (sb.2 b (fun z => hb (by simp [z]))).trans (hk b ob (fun z => hb (by simp [z])) (fun z => hb (by simp [z])) q)) hf (Nat.le_refl _) new
    refine ⟨.ref s.heap.objs.size, _, I1, rfl, ⟨_, x, rfl, I.hok.fresh (Nat.le_refl _), rfl, fun ys hy => by rw [I.tuple_inj hy hq]; exact hx⟩, ⟨⟨y, ?_⟩, hit'.1.at fun o q => (sb.2 it (Ne.symm hne)).trans q, hne⟩, fun b hb => ?_⟩
    · have e1 : ((i + 1 : Nat) : Int) = (i : Int) + 1 := by omega
      rw [e1]; exact he'
    · have hb' : b < s.heap.objs.size := by
        have e' : b = e ∨ b = it := by simpa using hb
        rcases e' with z | z
        · rw [z]; exact hel
        · rw [z]; exact hil
      rw [upd_ne (Nat.ne_of_lt hb')]
      exact (hf b hb).1
  done := by
    intro X hP hw hK hc i pins s σ H E I hf st hg
    subst hP hw hK
    obtain ⟨⟨old, he⟩, hit, hne⟩ := st
    obtain ⟨xs, hq, hx⟩ := hg
    obtain ⟨its, rv, p, hz⟩ := I.tuple hq
    obtain ⟨f0, f1, f2, f3, f4, f5⟩ := hf it (by simp)
    have hl := rv.length
    have hie : its.toArray[i]? = none := by simp; omega
    -- the iterator is past its end
    have hT : s.TypeIs (.ref e) "enumerate" := ⟨_, he, rfl⟩
    unfold pyNext
    refine wpAny_bind (wpAny_attempt (wpAny_callSpecial?_slot (name := Str.ofString "__next__") hT F.slot_enumerate_next
      (wpAny_call_entry F.slot_enumerate_next hT F.entry_enumerate_next ?_ (F.args_enumerate_next_1 _))))
    show wpAny _ _ (field (.ref e) 2 >>= _) _ _ _
    refine wpAny_bind (wpAny_field he rfl (x := .ref it) rfl ?_)
    refine wpAny_bind (RZ.nextOf_tuple_end (I.ok.hd hc) hit p hie fun h' x he' hx' => ?_)
    obtain ⟨o, ho, hcs⟩ := hx'
    refine wpAny_bind (wpAny_isInstance (T := "StopIteration") (b := true) ⟨o, ho, hcs⟩ isSubtype_stop ?_)
    exact wpAny_pure ⟨rfl, I.turned (t' := s.toks) (fun b o hb q => he' b o hb q) f0 f1 f3 f4 f5⟩
  self := fun A i s Q E st h => let ⟨⟨_, he⟩, _⟩ := st; wpAny_pyIter_enum he h
def iEnumA (K : PySem.W.Frag) (ta : TA) : TI := fun σ H R => ta σ H fun vs H1 => ∃ a xs, vs = [.ref a] ∧ ((SqL K H1 a xs ∧ R (Ite K a) H1) ∨ (SqT K H1 a xs ∧ R (IteT K a) H1))
theorem pi_enumA {X : Cx} {e : Expr} {ta : TA} {p pos tpos : Pos} {elts : List Expr} {kk : Nat} (hg : Gl X "enumerate") (hm : X.mg "enumerate" = none) (ha : PA X [e] ta) (hs : starEach [e] X.env = [(false, eval e X.env)] := by rfl) :
    PI X (.Tuple elts kk tpos) (.Call (.Name "enumerate" p) [e] [] pos) (iEnumA X.K ta) := by
  refine ⟨fun pins s σ H R I h => ?_⟩
  refine Call_ (ld_blt I hg hm boot_enumerate (PyProof.Rows.callWith_type1 (thn (ha.run pos pins s σ H _ I h) fun us s1 ⟨vs, H1, I1, r1, q1⟩ => ?_) hs rfl))
  obtain ⟨a, xs, ex, ⟨hq, q⟩ | ⟨hq, q⟩⟩ := q1
  · subst ex
    cases r1 with
    | cons r rr =>
      cases rr
      cases r
      obtain ⟨its, rv, p', hz⟩ := I1.list hq
      refine call_enumerate_list p'.isList fun h' he hit hsz hk => wpAny_pyIter_enum he ?_
      have I2 : Inv X pins σ H1 { s1 with heap := h' } := I1.kept (t' := s1.toks) hk
      refine ⟨s1.heap.objs.size + 1, [s1.heap.objs.size + 1, s1.heap.objs.size], _, _, H1, rfl, I2, turn_enum a (s1.heap.objs.size + 1) s1.heap.objs.size, ⟨⟨.none, he⟩, hit, Nat.succ_ne_self _⟩, fun b hb => ?_, q⟩
      have e' : b = s1.heap.objs.size + 1 ∨ b = s1.heap.objs.size := by simpa using hb
      have hle : s1.heap.objs.size ≤ b := by
        rcases e' with z | z
        · rw [z]; exact Nat.le_add_right _ _
        · rw [z]; exact Nat.le_refl _
      exact I1.fpOk hle (I1.hok.fresh hle)
  · subst ex
    cases r1 with
    | cons r rr =>
      cases rr
      cases r
      obtain ⟨its, rv, p', hz⟩ := I1.tuple hq
      have hlt : a < s1.heap.objs.size := by obtain ⟨o, ho, _⟩ := p'; exact Heap.lt_size ho
      refine call_enumerate_tuple p' fun h' he hit hsz hk => wpAny_pyIter_enum he ?_
      have I2 : Inv X pins σ H1 { s1 with heap := h' } := I1.kept (t' := s1.toks) hk
      refine ⟨s1.heap.objs.size + 1, [s1.heap.objs.size + 1, s1.heap.objs.size], _, _, H1, rfl, I2, turn_enumT a (s1.heap.objs.size + 1) s1.heap.objs.size (Nat.ne_of_lt hlt) (Nat.ne_of_lt (Nat.lt_succ_of_lt hlt)), ⟨⟨.none, he⟩, hit, Nat.succ_ne_self _⟩, fun b hb => ?_, q⟩
      have e' : b = s1.heap.objs.size + 1 ∨ b = s1.heap.objs.size := by simpa using hb
      have hle : s1.heap.objs.size ≤ b := by
        rcases e' with z | z
        · rw [z]; exact Nat.le_add_right _ _
        · rw [z]; exact Nat.le_refl _
      exact I1.fpOk hle (I1.hok.fresh hle)
end L2
namespace R
open PySem PySem.Spec PyProof.Rows L2
/-! ### tuples whose object is known to have no dict -/
def TupZ (H : Hp) (a : Addr) (xs : List V) : Prop := ∃ o : Obj, o.dict = none ∧ H a = some (.frz o (.tup xs))
theorem TupZ.sq {K : PySem.W.Frag} {H : Hp} {a : Addr} {xs : List V} (h : TupZ H a xs) : SqT K H a xs := let ⟨o, _, e⟩ := h; .inl (.inr ⟨o, e⟩)
theorem TupZ.at {H H' : Hp} {a : Addr} {xs : List V} (h : TupZ H a xs) (k : ∀ o, H a = some o → H' a = some o) : TupZ H' a xs := let ⟨o, d, e⟩ := h; ⟨o, d, k _ e⟩
/-- H' is H and a new tuple at p -/
def NewZ (H : Hp) (p : Addr) (xs : List V) (H' : Hp) : Prop := H p = none ∧ ∃ o : Obj, o.dict = none ∧ H' = upd H p (.frz o (.tup xs))
theorem NewZ.keep {H H' : Hp} {p : Addr} {xs : List V} (h : NewZ H p xs H') : ∀ a o, H a = some o → H' a = some o := by
  obtain ⟨n, o, _, rfl⟩ := h
  exact fun a u e => by rw [upd_ne (fun z => by rw [z, n] at e; cases e)]; exact e
theorem NewZ.tup {H H' : Hp} {p : Addr} {xs : List V} (h : NewZ H p xs H') : TupZ H' p xs := by
  obtain ⟨n, o, d, rfl⟩ := h
  exact ⟨o, d, upd_same⟩
theorem NewZ.free {H H' : Hp} {p : Addr} {xs : List V} (h : NewZ H p xs H') : H p = none := h.1
section
variable {X : Cx} {pins : List (Addr × Obj)} {σ : L2.St} {H : Hp} {s : Shared} {h' : Heap}
theorem Inv.tupZ_dict (I : Inv X pins σ H s) {a : Addr} {xs : List V} (h : TupZ H a xs) : ∃ o : Obj, s.heap.get? a = some o ∧ o.cls = .type "tuple" ∧ o.dict = none := by
  obtain ⟨o, d, e⟩ := h
  obtain ⟨e1, _, _, _, o2, e2, c, _⟩ := (show ObjOk X.prog X.w H s.heap a (.frz o (.tup xs)) from I.hok a _ e)
  rw [e1] at e2
  cases e2
  exact ⟨o, e1, c, d⟩
theorem newZ_ok {a : Addr} {xs : List V} {us : List Value} {n : Nat} (rv : Vals xs us) (hz : xs.length ≤ sizeLine) (e : h'.get? a = some { cls := .type "tuple", data := .seq us.toArray n }) : ObjOk X.prog X.w (upd H a (.frz { cls := .type "tuple", data := .seq us.toArray n } (.tup xs))) h' a (.frz { cls := .type "tuple", data := .seq us.toArray n } (.tup xs)) :=
  ⟨e, hz, us, rv, ⟨_, e, rfl, _, rfl⟩⟩
theorem Inv.laidZ {a : Addr} {t' : Nat} {xs : List V} {us : List Value} {n : Nat} (I : Inv X pins σ H s) (k : ∀ b u, s.heap.get? b = some u → h'.get? b = some u) (hp : s.heap.objs.size ≤ a) (rv : Vals xs us) (hz : xs.length ≤ sizeLine) (e : h'.get? a = some { cls := .type "tuple", data := .seq us.toArray n }) :
    ∃ H', NewZ H a xs H' ∧ Inv X pins σ H' { s with heap := h', toks := t' } :=
  ⟨_, ⟨I.hok.fresh hp, _, rfl, rfl⟩, I.laid k hp (newZ_ok rv hz e)⟩
end
/-! ### a tuple of written items -/
section
variable {X : Cx} {es : List Expr} {t : TA} {pos : Pos}
def tTupZ (t : TA) : TE := fun σ H Q => t σ H fun xs H1 => xs.length ≤ sizeLine ∧ ∀ p H', NewZ H1 p xs H' → Q (.ref p) H'
theorem pe_tupZ {x1} (h : PA X es t) : PE X (.Tuple es x1 pos) (tTupZ t) := by
  refine ⟨fun pins s σ H Q I hq => ?_⟩
  refine wpAny_Tuple_spliced (thn (h.run pos pins s σ H _ I hq) fun us s1 ⟨xs, H1, I1, r, z, q⟩ => ⟨by rw [← r.length]; exact z, ?_⟩)
  obtain ⟨H', n, J⟩ := Inv.laidZ (t' := s1.toks) I1 (fun b u e => Heap.get?_push_of_some _ e) (Nat.le_refl _) r z (Heap.get?_push_size _ rfl)
  exact ⟨.ref s1.heap.objs.size, H', J, rfl, q _ _ n⟩
end
/-! ### tuple(x) -/
section
variable {X : Cx}
theorem call_tuple_ofZ : CallR X (.type "tuple") (fun xs H Q => ∃ p ys, xs = [.ref p] ∧ ((SqL X.K H p ys ∧ ∀ l H', NewZ H l ys H' → Q (.ref l) H') ∨ (SqT X.K H p ys ∧ Q (.ref p) H))) := by
  intro pins s σ H xs us Q I r h
  obtain ⟨p, ys, rfl, h⟩ := h
  obtain ⟨u, rfl, rx⟩ := vals1 r
  cases rx
  rcases h with ⟨hq, q⟩ | ⟨hq, q⟩
  · obtain ⟨its, r', pl, hz⟩ := I.list hq
    have hlen := r'.length
    refine call_tuple_list pl.isList (fun h' kp => ?_) (by simp only [List.size_toArray] <;> omega)
    have I1 : Inv X pins σ H { s with heap := h' } := I.kept (t' := s.toks) kp
    obtain ⟨H', n, J⟩ := Inv.laidZ (h' := h'.push { cls := .type "tuple", data := .seq its.toArray }) (t' := s.toks) I1 (fun b o e => Heap.get?_push_of_some _ e) (Nat.le_refl _) r' hz (Heap.get?_push_size _ rfl)
    exact ⟨.ref h'.objs.size, H', J, rfl, q _ _ n⟩
  · obtain ⟨its, r', pl, hz⟩ := I.tuple hq
    exact call_tuple_same pl ⟨.ref p, H, I, rfl, q⟩
/-! ### t + u -/
def rCatZ (K : PySem.W.Frag) : R2 := fun x y H Q => ∃ a b xs ys, x = .ref a ∧ y = .ref b ∧ SqT K H a xs ∧ SqT K H b ys ∧ xs.length + ys.length ≤ sizeLine ∧
  (xs = [] → Q (.ref b) H) ∧ (xs ≠ [] → ys = [] → Q (.ref a) H) ∧ (xs ≠ [] → ys ≠ [] → ∀ p H', NewZ H p (xs ++ ys) H' → Q (.ref p) H')
theorem op_catZ : OpR X (binaryOp .Add) (rCatZ X.K) := by
  intro pins s σ H x y v u Q I rx ry h
  obtain ⟨a, b, xs, ys, rfl, rfl, ha, hb, hz, q0, q1, q2⟩ := h
  cases rx
  cases ry
  obtain ⟨its, r1, p1, _⟩ := I.tuple ha
  obtain ⟨its2, r2, p2, _⟩ := I.tuple hb
  by_cases hx : xs = []
  · subst hx
    cases r1
    exact cat_tup0 p1 p2 ⟨.ref b, H, I, rfl, q0 rfl⟩
  · refine HT.cat_tup p1 p2 (fun z => hx (r1.nil_iff.mp z)) (fun z => ⟨.ref a, H, I, rfl, q1 hx (r2.nil_iff.mp z)⟩) (fun z => ?_) (by rw [← r1.length, ← r2.length]; exact hz)
    obtain ⟨H', n, J⟩ := Inv.laidZ (t' := s.toks) I (fun b ob q => Heap.get?_push_of_some _ q) (Nat.le_refl _) (r1.append r2) (by rw [List.length_append]; exact hz) (Heap.get?_push_size _ rfl)
    exact ⟨.ref s.heap.objs.size, H', J, rfl, q2 hx (fun w => z (r2.nil_iff.mpr w)) _ _ n⟩
/-! ### t[lo:hi] -/
def rSlZ (K : PySem.W.Frag) : V → Option Int → Option Int → Hp → VK → Prop := fun x lo hi H Q => ∃ a xs, x = .ref a ∧ SqT K H a xs ∧
  (HT.sIx xs.length 0 lo = 0 ∧ HT.sIx xs.length xs.length hi = xs.length → Q (.ref a) H) ∧ (¬ (HT.sIx xs.length 0 lo = 0 ∧ HT.sIx xs.length xs.length hi = xs.length) → ∀ p H', NewZ H p (cutV xs lo hi) H' → Q (.ref p) H')
theorem sl_tupZ : SlR X (rSlZ X.K) := by
  intro pins s σ H x v vl vu lo hi sl Q I rx hs pl pu h
  obtain ⟨a, xs, rfl, hx, q1, q2⟩ := h
  cases rx
  obtain ⟨its, r, ht, hz⟩ := I.tuple hx
  have hlen : its.toArray.size = xs.length := by rw [List.size_toArray]; exact r.length.symm
  refine ⟨"tuple", _, PyProof.Rows.slot_tuple_getitem.lookup, ht.typeIs, ?_⟩
  by_cases hw : HT.sIx xs.length 0 lo = 0 ∧ HT.sIx xs.length xs.length hi = xs.length
  · exact getItem_tuple_whole ht hs pl pu (by rw [hlen]; exact hw) ⟨.ref a, H, I, rfl, q1 hw⟩
  · refine HT.getItem_tuple_cut ht hs pl pu (by rw [hlen]; exact hw) ?_ (by rw [hlen]; exact hz)
    rw [hlen]
    obtain ⟨H', n, J⟩ := Inv.laidZ (t' := s.toks) I (fun b ob q => Heap.get?_push_of_some _ q) (Nat.le_refl _) ((r.drop (HT.sIx xs.length 0 lo)).take (HT.sIx xs.length xs.length hi - HT.sIx xs.length 0 lo)) (Nat.le_trans (cutV_length xs lo hi) hz) (Heap.get?_push_size _ rfl)
    exact ⟨.ref s.heap.objs.size, H', J, rfl, q2 hw _ _ n⟩
end
/-! ### t * n -/
def rRepZ (K : PySem.W.Frag) : R2 := fun x y H Q => ∃ l k xs, x = .ref l ∧ y = .int k ∧ SqT K H l xs ∧ xs ≠ [] ∧ 2 ≤ k ∧ k ≤ 1000 ∧ xs.length ≤ 1000 ∧ ∀ p H', NewZ H p (List.replicate k.toNat xs).flatten H' → Q (.ref p) H'
section
variable {X : Cx}
theorem op_repTZ : OpR X (binaryOp .Mult) (rRepZ X.K) := by
  intro pins s σ H x y v u Q I rx ry h
  obtain ⟨l, k, xs, rfl, rfl, hT, hne, h1, h2, hz, q⟩ := h
  cases rx
  obtain ⟨t, rfl⟩ := ry
  obtain ⟨its, r, ⟨⟨cls, dd, data, sl⟩, ho, hc, n, hd⟩, hs⟩ := I.tuple hT
  simp only at hc hd
  subst hc hd
  have hle : its.length = xs.length := r.length.symm
  have hn : its ≠ [] := fun e => hne (by
    rw [e] at hle
    exact List.eq_nil_of_length_eq_zero hle.symm)
  have hi : its.toArray.isEmpty = false := by
    cases its with
    | nil => exact absurd rfl hn
    | cons a b => rfl
  have hsz0 : its.toArray.size = xs.length := by rw [List.size_toArray, hle]
  have hm : ((its.toArray.size : Nat) : Int) * k ≤ 1000000 := by
    rw [hsz0]
    have a1 : ((xs.length : Nat) : Int) * k ≤ 1000 * k := Int.mul_le_mul_of_nonneg_right (by omega) (by omega)
    omega
  have flen : (List.replicate k.toNat its).flatten.length ≤ sizeLine := by
    rw [PyProof.Rows.lm_len_rep_flat, hle, sizeLine_eq]
    have a1 : k.toNat * xs.length ≤ 1000 * 1000 := Nat.mul_le_mul (by omega) hz
    omega
  have c0 : (decide (k < -(2 ^ 63)) || decide (k ≥ 2 ^ 63)) = false := by
    rw [decide_eq_false (by omega), decide_eq_false (by omega)] <;> rfl
  have c1 : (its.toArray.isEmpty || k == 1) = false := by
    rw [hi, Bool.false_or]
    exact beq_eq_false_iff_ne.mpr (by omega)
  have c2 : (decide (k ≤ 0) || its.toArray.isEmpty) = false := by
    rw [hi, Bool.or_false]
    exact decide_eq_false (by omega)
  have c4 : Builtin.Tuple.tupleTooMany (((its.toArray.size : Nat) : Int) * k) = false := by
    unfold Builtin.Tuple.tupleTooMany
    rw [sizeLine_eq]
    exact decide_eq_false (by omega)
  refine wpAny_binaryOp_repeat_ref (T := "tuple") (U := "int") (by decide) ⟨_, ho, rfl⟩ (fun s' => typeIs_int s' k t) noFill_tuple_mul F.fills_int_mul F.slot_int_rmul repeat_tuple F.slot_int_index.lookup
    (call_meets F.slot_int_rmul (typeIs_int s k t) F.entry_int_rmul (F.args_int_rmul_2 _ _) (int_rmul_tuple k t l its.toArray n dd sl)
      ⟨ho, rfl, ⟨_, ho, rfl⟩, call_meets F.slot_tuple_mul ⟨_, ho, rfl⟩ F.entry_tuple_mul (F.args_tuple_mul_2 _ _) (tuple_mulW l its.toArray n dd sl k t c0 c1 c2 (by omega) c4 (by rw [size_rep, List.size_toArray]; exact flen)) ⟨ho, ?_⟩⟩)
  rw [size_rep]
  obtain ⟨H', n2, J⟩ := Inv.laidZ (t' := s.toks) I (fun b ob q => Heap.get?_push_of_some _ q) (Nat.le_refl _) (r.rep k.toNat) (by rw [PyProof.Rows.lm_len_rep_flat, sizeLine_eq]; have a1 : k.toNat * xs.length ≤ 1000 * 1000 := Nat.mul_le_mul (by omega) hz; omega) (Heap.get?_push_size _ rfl)
  exact ⟨.ref s.heap.objs.size, H', J, rfl, q _ _ n2⟩
end

/-! ### enumerate -/
def IteZ (K : PySem.W.Frag) (a : Addr) : It :=
  ⟨fun i H => ∃ (xs : List V) (x : V), SqL K H a xs ∧ xs[i]? = some x, fun i H v H' => ∃ T x, v = .ref T ∧ NewZ H T [.int (i : Nat), x] H' ∧ ∀ xs, SqL K H a xs → xs[i]? = some x, fun i H => ∃ xs : List V, SqL K H a xs ∧ xs.length ≤ i⟩
theorem turn_enumZ {P : Program} {w : World} {K : PySem.W.Frag} {elts : List Expr} {kk : Nat} {tpos : Pos} (a e it : Addr) :
    Turn P w K (.Tuple elts kk tpos) (IteZ K a) [e, it] e (fun i h => (∃ old, IsEnum h e it ((i : Nat) : Int) old) ∧ h.IsListIter it a i ∧ e ≠ it) where
  mem := (turn_enum (P := P) (w := w) (K := K) (elts := elts) (kk := kk) (tpos := tpos) a e it).mem
  obj := (turn_enum (P := P) (w := w) (K := K) (elts := elts) (kk := kk) (tpos := tpos) a e it).obj
  keep := (turn_enum (P := P) (w := w) (K := K) (elts := elts) (kk := kk) (tpos := tpos) a e it).keep
  done := (turn_enum (P := P) (w := w) (K := K) (elts := elts) (kk := kk) (tpos := tpos) a e it).done
  self := (turn_enum (P := P) (w := w) (K := K) (elts := elts) (kk := kk) (tpos := tpos) a e it).self
  item := by
    intro X hP hw hK hc i pins s σ H E I hf st hg
    subst hP hw hK
    obtain ⟨⟨old, he⟩, hit, hne⟩ := st
    obtain ⟨xs, x, hq, hx⟩ := hg
    obtain ⟨its, rv, p, hz⟩ := I.list hq
    obtain ⟨u, hu, ru⟩ := rv.get hx
    have hel : e < s.heap.objs.size := Heap.lt_size he
    have hil : it < s.heap.objs.size := by obtain ⟨_, q, _⟩ := hit; exact Heap.lt_size q
    refine wpAny_pyNext_enum_item he hit p.isList (x := u) (by simpa using hu) hne fun h' ho hit' hT hsz hk => ?_
    refine ⟨_, rfl, wpAny_letOwnedTupleGo_enum (s := { s with heap := h', toks := s.toks + 1 }) ho fun h'' he' sb => ?_⟩
    have hT2 : h''.get? s.heap.objs.size = some { cls := .type "tuple", data := .seq #[.int i s.toks, u] } := (sb.2 _ (Nat.ne_of_gt hel)).trans hT
    have new := newZ_ok (X := X) (H := H) (h' := h'') (a := s.heap.objs.size) (xs := [.int (i : Nat), x]) (us := [.int i s.toks, u]) (n := 0) (.cons ⟨_, rfl⟩ (.cons ru .nil)) (by show 2 ≤ sizeLine; decide) hT2
    have I1 : Inv X pins σ (upd H s.heap.objs.size (.frz { cls := .type "tuple", data := .seq [.int i s.toks, u].toArray } (.tup [.int (i : Nat), x]))) { s with heap := h'', toks := s.toks + 1 } :=
      I.turnedNew (ch := [e, it]) (fun b ob hb q => (sb.2 b (fun z => hb (by simp [z]))).trans (hk b ob (fun z => hb (by simp [z])) (fun z => hb (by simp [z])) q)) hf (Nat.le_refl _) new
    refine ⟨.ref s.heap.objs.size, _, I1, rfl, ⟨_, x, rfl, ⟨I.hok.fresh (Nat.le_refl _), _, rfl, rfl⟩, fun ys hy => by rw [I.list_inj hy hq]; exact hx⟩, ⟨⟨u, ?_⟩, hit'.at fun o q => (sb.2 it (Ne.symm hne)).trans q, hne⟩, fun b hb => ?_⟩
    · have e1 : ((i + 1 : Nat) : Int) = (i : Int) + 1 := by omega
      rw [e1]; exact he'
    · have hb' : b < s.heap.objs.size := by
        have e' : b = e ∨ b = it := by simpa using hb
        rcases e' with z | z
        · rw [z]; exact hel
        · rw [z]; exact hil
      rw [upd_ne (Nat.ne_of_lt hb')]
      exact (hf b hb).1
def IteTZ (K : PySem.W.Frag) (a : Addr) : It :=
  ⟨fun i H => ∃ (xs : List V) (x : V), SqT K H a xs ∧ xs[i]? = some x, fun i H v H' => ∃ T x, v = .ref T ∧ NewZ H T [.int (i : Nat), x] H' ∧ ∀ xs, SqT K H a xs → xs[i]? = some x, fun i H => ∃ xs : List V, SqT K H a xs ∧ xs.length ≤ i⟩
theorem turn_enumTZ {P : Program} {w : World} {K : PySem.W.Frag} {elts : List Expr} {kk : Nat} {tpos : Pos} (a e it : Addr) (hai : a ≠ it) (hae : a ≠ e) :
    Turn P w K (.Tuple elts kk tpos) (IteTZ K a) [e, it] e (fun i h => (∃ old, IsEnum h e it ((i : Nat) : Int) old) ∧ h.IsTupleIter it a i ∧ e ≠ it) where
  mem := (turn_enumT (P := P) (w := w) (K := K) (elts := elts) (kk := kk) (tpos := tpos) a e it hai hae).mem
  obj := (turn_enumT (P := P) (w := w) (K := K) (elts := elts) (kk := kk) (tpos := tpos) a e it hai hae).obj
  keep := (turn_enumT (P := P) (w := w) (K := K) (elts := elts) (kk := kk) (tpos := tpos) a e it hai hae).keep
  done := (turn_enumT (P := P) (w := w) (K := K) (elts := elts) (kk := kk) (tpos := tpos) a e it hai hae).done
  self := (turn_enumT (P := P) (w := w) (K := K) (elts := elts) (kk := kk) (tpos := tpos) a e it hai hae).self
  item := by
    intro X hP hw hK hc i pins s σ H E I hf st hg
    subst hP hw hK
    obtain ⟨⟨old, he⟩, hit, hne⟩ := st
    obtain ⟨xs, x, hq, hx⟩ := hg
    obtain ⟨its, rv, p, hz⟩ := I.tuple hq
    obtain ⟨u, hu, ru⟩ := rv.get hx
    have hel : e < s.heap.objs.size := Heap.lt_size he
    have hil : it < s.heap.objs.size := by obtain ⟨_, q, _⟩ := hit; exact Heap.lt_size q
    have hlt : i < its.toArray.size := by
      have := (List.getElem?_eq_some_iff.mp hu).1
      simpa using this
    refine wpAny_pyNext_enum_itemD (drawsT (A := X.A.in1) (I.ok.hd hc) it a hai its.toArray) he ⟨hit, p⟩ hlt hne (by simp; exact ⟨hne, fun z => hae z.symm⟩) fun y h' tk hy ho hit' hT hsz hk => ?_
    have ey : y = u := by
      have hu' : its.toArray[i]? = some u := by simpa using hu
      rw [hu'] at hy
      exact (Option.some.inj hy).symm
    subst ey
    refine ⟨_, rfl, wpAny_letOwnedTupleGo_enum (s := { s with heap := h', toks := tk + 1 }) ho fun h'' he' sb => ?_⟩
    have hT2 : h''.get? s.heap.objs.size = some { cls := .type "tuple", data := .seq #[.int i tk, y] } := (sb.2 _ (Nat.ne_of_gt hel)).trans hT
    have new := newZ_ok (X := X) (H := H) (h' := h'') (a := s.heap.objs.size) (xs := [.int (i : Nat), x]) (us := [.int i tk, y]) (n := 0) (.cons ⟨_, rfl⟩ (.cons ru .nil)) (by show 2 ≤ sizeLine; decide) hT2
    have I1 : Inv X pins σ (upd H s.heap.objs.size (.frz { cls := .type "tuple", data := .seq [.int i tk, y].toArray } (.tup [.int (i : Nat), x]))) { s with heap := h'', toks := tk + 1 } :=
      I.turnedNew (ch := [e, it]) (fun b ob hb q => (sb.2 b (fun z => hb (by simp [z]))).trans (hk b ob (fun z => hb (by simp [z])) (fun z => hb (by simp [z])) q)) hf (Nat.le_refl _) new
    refine ⟨.ref s.heap.objs.size, _, I1, rfl, ⟨_, x, rfl, ⟨I.hok.fresh (Nat.le_refl _), _, rfl, rfl⟩, fun ys hy => by rw [I.tuple_inj hy hq]; exact hx⟩, ⟨⟨y, ?_⟩, hit'.1.at fun o q => (sb.2 it (Ne.symm hne)).trans q, hne⟩, fun b hb => ?_⟩
    · have e1 : ((i + 1 : Nat) : Int) = (i : Int) + 1 := by omega
      rw [e1]; exact he'
    · have hb' : b < s.heap.objs.size := by
        have e' : b = e ∨ b = it := by simpa using hb
        rcases e' with z | z
        · rw [z]; exact hel
        · rw [z]; exact hil
      rw [upd_ne (Nat.ne_of_lt hb')]
      exact (hf b hb).1
def iEnumZ (K : PySem.W.Frag) (ta : TA) : TI := fun σ H R => ta σ H fun vs H1 => ∃ a xs, vs = [.ref a] ∧ ((SqL K H1 a xs ∧ R (IteZ K a) H1) ∨ (SqT K H1 a xs ∧ R (IteTZ K a) H1))
theorem pi_enumZ {X : Cx} {e : Expr} {ta : TA} {p pos tpos : Pos} {elts : List Expr} {kk : Nat} (hg : Gl X "enumerate") (hm : X.mg "enumerate" = none) (ha : PA X [e] ta) (hs : starEach [e] X.env = [(false, eval e X.env)] := by rfl) :
    PI X (.Tuple elts kk tpos) (.Call (.Name "enumerate" p) [e] [] pos) (iEnumZ X.K ta) := by
  refine ⟨fun pins s σ H R I h => ?_⟩
  refine Call_ (ld_blt I hg hm boot_enumerate (PyProof.Rows.callWith_type1 (thn (ha.run pos pins s σ H _ I h) fun us s1 ⟨vs, H1, I1, r1, q1⟩ => ?_) hs rfl))
  obtain ⟨a, xs, ex, ⟨hq, q⟩ | ⟨hq, q⟩⟩ := q1
  · subst ex
    cases r1 with
    | cons r rr =>
      cases rr
      cases r
      obtain ⟨its, rv, p', hz⟩ := I1.list hq
      refine call_enumerate_list p'.isList fun h' he hit hsz hk => wpAny_pyIter_enum he ?_
      have I2 : Inv X pins σ H1 { s1 with heap := h' } := I1.kept (t' := s1.toks) hk
      refine ⟨s1.heap.objs.size + 1, [s1.heap.objs.size + 1, s1.heap.objs.size], _, _, H1, rfl, I2, turn_enumZ a (s1.heap.objs.size + 1) s1.heap.objs.size, ⟨⟨.none, he⟩, hit, Nat.succ_ne_self _⟩, fun b hb => ?_, q⟩
      have e' : b = s1.heap.objs.size + 1 ∨ b = s1.heap.objs.size := by simpa using hb
      have hle : s1.heap.objs.size ≤ b := by
        rcases e' with z | z
        · rw [z]; exact Nat.le_add_right _ _
        · rw [z]; exact Nat.le_refl _
      exact I1.fpOk hle (I1.hok.fresh hle)
  · subst ex
    cases r1 with
    | cons r rr =>
      cases rr
      cases r
      obtain ⟨its, rv, p', hz⟩ := I1.tuple hq
      have hlt : a < s1.heap.objs.size := by obtain ⟨o, ho, _⟩ := p'; exact Heap.lt_size ho
      refine call_enumerate_tuple p' fun h' he hit hsz hk => wpAny_pyIter_enum he ?_
      have I2 : Inv X pins σ H1 { s1 with heap := h' } := I1.kept (t' := s1.toks) hk
      refine ⟨s1.heap.objs.size + 1, [s1.heap.objs.size + 1, s1.heap.objs.size], _, _, H1, rfl, I2, turn_enumTZ a (s1.heap.objs.size + 1) s1.heap.objs.size (Nat.ne_of_lt hlt) (Nat.ne_of_lt (Nat.lt_succ_of_lt hlt)), ⟨⟨.none, he⟩, hit, Nat.succ_ne_self _⟩, fun b hb => ?_, q⟩
      have e' : b = s1.heap.objs.size + 1 ∨ b = s1.heap.objs.size := by simpa using hb
      have hle : s1.heap.objs.size ≤ b := by
        rcases e' with z | z
        · rw [z]; exact Nat.le_add_right _ _
        · rw [z]; exact Nat.le_refl _
      exact I1.fpOk hle (I1.hok.fresh hle)

/-! ### zip -/
def ItzZ (K : PySem.W.Frag) (a b : Addr) : It :=
  ⟨fun i H => ∃ (xs ys : List V) (x y : V), SqL K H a xs ∧ SqL K H b ys ∧ xs[i]? = some x ∧ ys[i]? = some y,
    fun i H v H' => ∃ T x y, v = .ref T ∧ NewZ H T [x, y] H' ∧ (∀ xs, SqL K H a xs → xs[i]? = some x) ∧ ∀ ys, SqL K H b ys → ys[i]? = some y,
    fun i H => ∃ xs ys : List V, SqL K H a xs ∧ SqL K H b ys ∧ (xs.length ≤ i ∨ ys.length ≤ i)⟩
theorem turn_zipZ {P : Program} {w : World} {K : PySem.W.Frag} {elts : List Expr} {kk : Nat} {tpos : Pos} {a b z TI TO i1 i2 : Addr} (D : ZipApart z TI TO i1 i2 a b) :
    Turn P w K (.Tuple elts kk tpos) (ItzZ K a b) [z, TI, TO, i1, i2] z (fun i h => IsZip h z TI TO .none ∧ IsPair h TI (.ref i1) (.ref i2) ∧ (∃ x y, IsPair h TO x y) ∧ h.IsListIter i1 a i ∧ h.IsListIter i2 b i) where
  mem := (turn_zip (P := P) (w := w) (K := K) (elts := elts) (kk := kk) (tpos := tpos) D).mem
  obj := (turn_zip (P := P) (w := w) (K := K) (elts := elts) (kk := kk) (tpos := tpos) D).obj
  keep := (turn_zip (P := P) (w := w) (K := K) (elts := elts) (kk := kk) (tpos := tpos) D).keep
  done := (turn_zip (P := P) (w := w) (K := K) (elts := elts) (kk := kk) (tpos := tpos) D).done
  self := (turn_zip (P := P) (w := w) (K := K) (elts := elts) (kk := kk) (tpos := tpos) D).self
  item := by
    intro X hP hw hK hc i pins s σ H E I hf st hg
    subst hP hw hK
    obtain ⟨hz, hTI, ⟨x0, y0, hTO⟩, h1, h2⟩ := st
    obtain ⟨xs, ys, x, y, hqx, hqy, hx, hy⟩ := hg
    obtain ⟨its, rv, p, _⟩ := I.list hqx
    obtain ⟨its2, rv2, p2, _⟩ := I.list hqy
    obtain ⟨u, hu, ru⟩ := rv.get hx
    obtain ⟨u2, hu2, ru2⟩ := rv2.get hy
    have hzl : z < s.heap.objs.size := Heap.lt_size hz
    refine wpAny_pyNext_zip_item D hz hTI hTO h1 h2 p.isList p2.isList (x := u) (y := u2) (by simpa using hu) (by simpa using hu2) fun h' z' TO' h1' h2' hT hsz hk => ?_
    refine ⟨_, rfl, wpAny_letOwnedTupleGo_zip (s := { s with heap := h' }) z' fun h'' z'' sb => ?_⟩
    have hT2 : h''.get? s.heap.objs.size = some { cls := .type "tuple", data := .seq #[u, u2] } := (sb.2 _ (Nat.ne_of_gt hzl)).trans hT
    have new := newZ_ok (X := X) (H := H) (h' := h'') (a := s.heap.objs.size) (xs := [x, y]) (us := [u, u2]) (n := 0) (.cons ru (.cons ru2 .nil)) (by show 2 ≤ sizeLine; decide) hT2
    have I1 : Inv X pins σ (upd H s.heap.objs.size (.frz { cls := .type "tuple", data := .seq [u, u2].toArray } (.tup [x, y]))) { s with heap := h'' } :=
      I.turnedNew (t' := s.toks) (ch := [z, TI, TO, i1, i2]) (fun c o hb q => (sb.2 c (fun q' => hb (by simp [q']))).trans (hk c o (fun q' => hb (by simp [q'])) (fun q' => hb (by simp [q'])) (fun q' => hb (by simp [q'])) (fun q' => hb (by simp [q'])) q)) hf (Nat.le_refl _) new
    refine ⟨.ref s.heap.objs.size, _, I1, rfl, ⟨_, x, y, rfl, ⟨I.hok.fresh (Nat.le_refl _), _, rfl, rfl⟩, fun l hl => by rw [I.list_inj hl hqx]; exact hx, fun l hl => by rw [I.list_inj hl hqy]; exact hy⟩, ⟨z'', ?_, ⟨u, u2, ?_⟩, ?_, ?_⟩, fun c hcm => ?_⟩
    · exact (sb.2 _ D.TIz).trans (hk _ _ D.TIz D.TITO D.TIi1 D.TIi2 hTI)
    · exact (sb.2 _ D.TOz).trans TO'
    · exact h1'.at fun o q => (sb.2 _ D.i1z).trans q
    · exact h2'.at fun o q => (sb.2 _ D.i2z).trans q
    · have hlt : c < s.heap.objs.size := by
        have e' : c = z ∨ c = TI ∨ c = TO ∨ c = i1 ∨ c = i2 := by simpa using hcm
        rcases e' with q | q | q | q | q
        · rw [q]; exact hzl
        · rw [q]; exact Heap.lt_size hTI
        · rw [q]; exact Heap.lt_size hTO
        · rw [q]; obtain ⟨_, e1, _⟩ := h1; exact Heap.lt_size e1
        · rw [q]; obtain ⟨_, e2, _⟩ := h2; exact Heap.lt_size e2
      rw [upd_ne (Nat.ne_of_lt hlt)]
      exact (hf c hcm).1
/-- the tuples at a and b as they stand at each turn, the items in new pairs -/
def ItzTZ (K : PySem.W.Frag) (a b : Addr) : It :=
  ⟨fun i H => ∃ (xs ys : List V) (x y : V), SqT K H a xs ∧ SqT K H b ys ∧ xs[i]? = some x ∧ ys[i]? = some y,
    fun i H v H' => ∃ T x y, v = .ref T ∧ NewZ H T [x, y] H' ∧ (∀ xs, SqT K H a xs → xs[i]? = some x) ∧ ∀ ys, SqT K H b ys → ys[i]? = some y,
    fun i H => ∃ xs ys : List V, SqT K H a xs ∧ SqT K H b ys ∧ (xs.length ≤ i ∨ ys.length ≤ i)⟩
theorem turn_zipTZ {P : Program} {w : World} {K : PySem.W.Frag} {elts : List Expr} {kk : Nat} {tpos : Pos} {a b z TI TO i1 i2 : Addr} (D : ZipApart z TI TO i1 i2 a b) :
    Turn P w K (.Tuple elts kk tpos) (ItzTZ K a b) [z, TI, TO, i1, i2] z (fun i h => IsZip h z TI TO .none ∧ IsPair h TI (.ref i1) (.ref i2) ∧ (∃ x y, IsPair h TO x y) ∧ h.IsTupleIter i1 a i ∧ h.IsTupleIter i2 b i) where
  mem := (RZ.turn_zipT (P := P) (w := w) (K := K) (elts := elts) (kk := kk) (tpos := tpos) D).mem
  obj := (RZ.turn_zipT (P := P) (w := w) (K := K) (elts := elts) (kk := kk) (tpos := tpos) D).obj
  keep := (RZ.turn_zipT (P := P) (w := w) (K := K) (elts := elts) (kk := kk) (tpos := tpos) D).keep
  done := (RZ.turn_zipT (P := P) (w := w) (K := K) (elts := elts) (kk := kk) (tpos := tpos) D).done
  self := (RZ.turn_zipT (P := P) (w := w) (K := K) (elts := elts) (kk := kk) (tpos := tpos) D).self
  item := by
    intro X hP hw hK hc i pins s σ H E I hf st hg
    subst hP hw hK
    obtain ⟨hz, hTI, ⟨x0, y0, hTO⟩, h1, h2⟩ := st
    obtain ⟨xs, ys, x, y, hqx, hqy, hx, hy⟩ := hg
    obtain ⟨its, rv, p, _⟩ := I.tuple hqx
    obtain ⟨its2, rv2, p2, _⟩ := I.tuple hqy
    obtain ⟨u, hu, ru⟩ := rv.get hx
    obtain ⟨u2, hu2, ru2⟩ := rv2.get hy
    have hzl : z < s.heap.objs.size := Heap.lt_size hz
    refine RZ.pyNext_zipT_item D hz hTI hTO h1 h2 p p2 (x := u) (y := u2) (by simpa using hu) (by simpa using hu2) fun h' z' TO' h1' h2' hT hsz hk => ?_
    refine ⟨_, rfl, wpAny_letOwnedTupleGo_zip (s := { s with heap := h' }) z' fun h'' z'' sb => ?_⟩
    have hT2 : h''.get? s.heap.objs.size = some { cls := .type "tuple", data := .seq #[u, u2] } := (sb.2 _ (Nat.ne_of_gt hzl)).trans hT
    have new := newZ_ok (X := X) (H := H) (h' := h'') (a := s.heap.objs.size) (xs := [x, y]) (us := [u, u2]) (n := 0) (.cons ru (.cons ru2 .nil)) (by show 2 ≤ sizeLine; decide) hT2
    have I1 : Inv X pins σ (upd H s.heap.objs.size (.frz { cls := .type "tuple", data := .seq [u, u2].toArray } (.tup [x, y]))) { s with heap := h'' } :=
      I.turnedNew (t' := s.toks) (ch := [z, TI, TO, i1, i2]) (fun c o hb q => (sb.2 c (fun q' => hb (by simp [q']))).trans (hk c o (fun q' => hb (by simp [q'])) (fun q' => hb (by simp [q'])) (fun q' => hb (by simp [q'])) (fun q' => hb (by simp [q'])) q)) hf (Nat.le_refl _) new
    refine ⟨.ref s.heap.objs.size, _, I1, rfl, ⟨_, x, y, rfl, ⟨I.hok.fresh (Nat.le_refl _), _, rfl, rfl⟩, fun l hl => by rw [I.tuple_inj hl hqx]; exact hx, fun l hl => by rw [I.tuple_inj hl hqy]; exact hy⟩, ⟨z'', ?_, ⟨u, u2, ?_⟩, ?_, ?_⟩, fun c hcm => ?_⟩
    · exact (sb.2 _ D.TIz).trans (hk _ _ D.TIz D.TITO D.TIi1 D.TIi2 hTI)
    · exact (sb.2 _ D.TOz).trans TO'
    · exact h1'.at fun o q => (sb.2 _ D.i1z).trans q
    · exact h2'.at fun o q => (sb.2 _ D.i2z).trans q
    · have hlt : c < s.heap.objs.size := by
        have e' : c = z ∨ c = TI ∨ c = TO ∨ c = i1 ∨ c = i2 := by simpa using hcm
        rcases e' with q | q | q | q | q
        · rw [q]; exact hzl
        · rw [q]; exact Heap.lt_size hTI
        · rw [q]; exact Heap.lt_size hTO
        · rw [q]; obtain ⟨_, e1, _⟩ := h1; exact Heap.lt_size e1
        · rw [q]; obtain ⟨_, e2, _⟩ := h2; exact Heap.lt_size e2
      rw [upd_ne (Nat.ne_of_lt hlt)]
      exact (hf c hcm).1

def iZipZ (K : PySem.W.Frag) (ta : TA) : TI := fun σ H R => ta σ H fun vs H1 => ∃ a b xs ys, vs = [.ref a, .ref b] ∧ ((SqL K H1 a xs ∧ SqL K H1 b ys ∧ R (ItzZ K a b) H1) ∨ (SqT K H1 a xs ∧ SqT K H1 b ys ∧ R (ItzTZ K a b) H1))
theorem pi_zipZ {X : Cx} {e e2 : Expr} {ta : TA} {p pos tpos : Pos} {elts : List Expr} {kk : Nat} (hg : Gl X "zip") (hm : X.mg "zip" = none) (ha : PA X [e, e2] ta)
    (hs : starEach [e, e2] X.env = (false, eval e X.env) :: starEach [e2] X.env := by rfl) (hpl : (backTo pos (starEach [e2] X.env)).any (·.1) = false := by rfl) :
    PI X (.Tuple elts kk tpos) (.Call (.Name "zip" p) [e, e2] [] pos) (iZipZ X.K ta) := by
  refine ⟨fun pins s σ H R I h => ?_⟩
  refine Call_ (ld_blt I hg hm PyProof.Rows.boot_zip (PyProof.Rows.callWith_type1 (thn (ha.run pos pins s σ H _ I h) fun us s1 ⟨vs, H1, I1, r1, q1⟩ => ?_) hs hpl))
  obtain ⟨a, b, xs, ys, ex, q1⟩ := q1
  subst ex
  cases r1 with
  | cons r rr =>
    cases rr with
    | cons r' rr =>
      cases rr
      cases r
      cases r'
      have fresh5 : ∀ c, c ∈ [s1.heap.objs.size + 4, s1.heap.objs.size + 2, s1.heap.objs.size + 3, s1.heap.objs.size, s1.heap.objs.size + 1] → FpOk X pins H1 c := fun c hcm => by
        have e' : c = s1.heap.objs.size + 4 ∨ c = s1.heap.objs.size + 2 ∨ c = s1.heap.objs.size + 3 ∨ c = s1.heap.objs.size ∨ c = s1.heap.objs.size + 1 := by simpa using hcm
        have hle : s1.heap.objs.size ≤ c := by
          rcases e' with z | z | z | z | z
          · rw [z]; exact Nat.le_add_right _ _
          · rw [z]; exact Nat.le_add_right _ _
          · rw [z]; exact Nat.le_add_right _ _
          · rw [z]; exact Nat.le_refl _
          · rw [z]; exact Nat.le_add_right _ _
        exact I1.fpOk hle (I1.hok.fresh hle)
      rcases q1 with ⟨hqx, hqy, q⟩ | ⟨hqx, hqy, q⟩
      · obtain ⟨its, rv, p1, _⟩ := I1.list hqx
        obtain ⟨its2, rv2, p2, _⟩ := I1.list hqy
        refine call_zip_2 p1.isList p2.isList fun h' hz hTI hTO h1 h2 hsz hk => wpAny_pyIter_zip hz ?_
        have I2 : Inv X pins σ H1 { s1 with heap := h' } := I1.kept (t' := s1.toks) hk
        exact ⟨s1.heap.objs.size + 4, [s1.heap.objs.size + 4, s1.heap.objs.size + 2, s1.heap.objs.size + 3, s1.heap.objs.size, s1.heap.objs.size + 1], _, _, H1, rfl, I2, turn_zipZ (PySem.W.ktu_apart s1.heap.objs.size a b p1.lt p2.lt), ⟨hz, hTI, ⟨_, _, hTO⟩, h1, h2⟩, fresh5, q⟩
      · obtain ⟨its, rv, p1, _⟩ := I1.tuple hqx
        obtain ⟨its2, rv2, p2, _⟩ := I1.tuple hqy
        obtain ⟨o1, ho1, _⟩ := id p1
        obtain ⟨o2, ho2, _⟩ := id p2
        refine RZ.call_zipT (show s1.heap.IsTuple a its.toArray from p1) (show s1.heap.IsTuple b its2.toArray from p2) fun h' hz hTI hTO h1 h2 hsz hk => wpAny_pyIter_zip hz ?_
        have I2 : Inv X pins σ H1 { s1 with heap := h' } := I1.kept (t' := s1.toks) hk
        exact ⟨s1.heap.objs.size + 4, [s1.heap.objs.size + 4, s1.heap.objs.size + 2, s1.heap.objs.size + 3, s1.heap.objs.size, s1.heap.objs.size + 1], _, _, H1, rfl, I2, turn_zipTZ (PySem.W.ktu_apart s1.heap.objs.size a b (Heap.lt_size ho1) (Heap.lt_size ho2)), ⟨hz, hTI, ⟨_, _, hTO⟩, h1, h2⟩, fresh5, q⟩


/-! ### sorted of pairs -/
def rSortedPZ (K : PySem.W.Frag) : List V → Hp → VK → Prop := fun vs H Q => ∃ (a : Addr) (xs : List V) (k : V → Int × Int), vs = [V.ref a] ∧ SqL K H a xs ∧ (∀ x ∈ xs, ∃ t, x = V.ref t ∧ SqT K H t [.int (k x).1, .int (k x).2]) ∧
  ∀ ys p, SrtO.Srtd (ltP k) ys → SrtO.Stb (ltP k) ys xs → H p = none → Q (.ref p) (upd H p (.lst ys))
section
variable {X : Cx}
theorem cr_sortedPZ : CallR X (.builtin "sorted") (rSortedPZ X.K) := by
  intro pins s σ H vs us Q I r h
  obtain ⟨a, xs, k, rfl, hs, hx, q⟩ := h
  obtain ⟨its, rv, hl, hz⟩ := I.list hs
  obtain ⟨u, rfl, ru⟩ := vals1 r
  obtain rfl : u = Value.ref a := ru
  obtain ⟨e1, e2⟩ := refs_back rv fun x m => by
    obtain ⟨t, e, _⟩ := hx x m
    exact ⟨t, e⟩
  refine SrtO.sorted_pairsO (k := fun u => k (backV u)) hl.isList (by rw [← rv.length]; exact hz) (fun v hv => ?_) fun h' d out h1 h2 kp hd hn => ?_
  · obtain ⟨t, rfl⟩ := e2 v hv
    have hm : V.ref t ∈ xs := by rw [e1]; exact List.mem_map.mpr ⟨_, hv, rfl⟩
    obtain ⟨t', e, ht⟩ := hx _ hm
    cases e
    obtain ⟨its2, r2, ⟨o, ho, hc, n, hd⟩, _⟩ := I.tuple ht
    obtain ⟨u1, u2, rfl, ri, rj⟩ := vals2 r2
    obtain ⟨t1, rfl⟩ := ri
    obtain ⟨t2, rfl⟩ := rj
    exact ⟨t, o, t1, t2, n, rfl, ho, hc, hd⟩
  · have h3 : ∀ u ∈ out, ∃ a, u = Value.ref a := fun u hu => e2 u (h2.perm.mem_iff.mp hu)
    obtain ⟨n, hn⟩ := hn
    have hb : SrtO.Stb (ltP k) (out.map backV) xs := by
      rw [e1]
      exact SrtO.Stb.map (ltP_swo k) backV h2
    refine ⟨.ref d, upd H d (.lst (out.map backV)), I.laid (t' := s.toks) kp hd ⟨?_, out, n, vals_back h3, hn⟩, rfl, q _ d (SrtO.srtd_map h1) hb (I.hok.fresh hd)⟩
    rw [hb.len]
    exact hz
end
end R
namespace R
open PySem PySem.Spec PyProof.Rows L2

/-! ### the data and the heap of the semantics -/
/-- a frozen list: our own (new), one of a caller's, one of the written part (or the script) -/
inductive Tg where
  | own | bor | cst
  deriving DecidableEq
inductive Ty where
  | none | bool | int | str | tup | lst | dct | verr
  deriving DecidableEq
def Ty.name : Ty → String
  | .none => "NoneType" | .bool => "bool" | .int => "int" | .str => "str" | .tup => "tuple" | .lst => "list" | .dct => "dict" | .verr => "ValueError"
inductive D where
  | non | bl (b : Bool) | int (i : Int) | str (x : Str)
  | tup (xs : List D) | lst (f : Tg) (xs : List D) | loc (n : Nat) | gl (x : Str) | ty (t : Ty) | exn (x : Str)
  | oth (own : Bool)
inductive HB where
  | lst (xs : List D) | dct (kvs : List (Key × D)) | ins (c : Str) (fs : List (Str × D))
abbrev PH := List HB
structure Ex where
  cls : Str
  line : Option Int := none
inductive Out (α : Type) where
  | ok (a : α) (h : PH) | exc (e : Ex) (h : PH) | stuck
def Out.bind {α β : Type} : Out α → (α → PH → Out β) → Out β
  | .ok a h, k => k a h
  | .exc e h, _ => .exc e h
  | .stuck, _ => .stuck
@[simp] theorem bind_ok {α β : Type} (a : α) (h : PH) (k : α → PH → Out β) : (Out.ok a h).bind k = k a h := rfl
@[simp] theorem bind_exc {α β : Type} (e : Ex) (h : PH) (k : α → PH → Out β) : (Out.exc e h : Out α).bind k = .exc e h := rfl
@[simp] theorem bind_stuck {α β : Type} (k : α → PH → Out β) : (Out.stuck : Out α).bind k = .stuck := rfl
abbrev Rho := List (Option D)
abbrev EM := Rho → PH → Out D
abbrev TM := Rho → PH → Out Bool
abbrev AM := Rho → PH → Out (List D)

/-! ### what stands for what -/
structure Sx where
  O : Addr → Prop
  F : Addr → Prop
  μ : List Addr
/-- a list of the written part -/
def KL (K : PySem.W.Frag) (a : Addr) (xs : List V) : Prop :=
  ∃ (o : Obj) (its : Array Value) (n : Nat), K.lookup a = some o ∧ o.cls = .type "list" ∧ o.dict = none ∧ o.data = .seq its n ∧ its.size ≤ sizeLine ∧ Vals xs its.toList
def ListAt (K : PySem.W.Frag) (S : Sx) (H : Hp) (f : Tg) (a : Addr) (vs : List V) : Prop :=
  match f with
  | .own => H a = some (.lst vs) ∧ ¬ S.F a
  | .bor => H a = some (.lst vs) ∧ S.O a
  | .cst => (∃ o, H a = some (.frz o (.lst vs))) ∨ KL K a vs ∨ (H a = some (.lst vs) ∧ S.O a)
/-- an exception of the class C that was caught and kept -/
def ExK (C a : Addr) : HO := .ext fun h => ∃ (oe : Obj) (vs : Array Value), h.get? a = some oe ∧ Zc (.ref C) none oe ∧ oe.data = .fields vs
/-- the same, with a dict of its own -/
def ExD (C a dd : Addr) : HO := .ext fun h => ∃ (oe : Obj) (vs : Array Value), h.get? a = some oe ∧ Zc (.ref C) (some dd) oe ∧ oe.data = .fields vs
def ExO (C a : Addr) : Option Addr → HO
  | none => ExK C a
  | some dd => ExD C a dd
def ExAt (H : Hp) (C a : Addr) : Prop := H a = some (ExK C a) ∨ ∃ dd fs, H a = some (ExD C a dd) ∧ H dd = some (.xd fs)
theorem ExAt.map {H H' : Hp} {C a : Addr} (t : ExAt H C a) (k : ∀ b o, H b = some o → (∃ φ, o = .ext φ) ∨ (∃ fs, o = .xd fs) → H' b = some o) : ExAt H' C a := by
  rcases t with t | ⟨dd, fs, t, u⟩
  · exact .inl (k a _ t (.inl ⟨_, rfl⟩))
  · exact .inr ⟨dd, fs, k a _ t (.inl ⟨_, rfl⟩), k dd _ u (.inr ⟨_, rfl⟩)⟩
section
variable (K : PySem.W.Frag) (mg : Str → Option Value)
mutual
def Rep (S : Sx) (H : Hp) : D → V → Prop
  | .non, v => v = .non
  | .bl b, v => v = .bl b
  | .int i, v => v = .int i
  | .str x, v => v = .str x
  | .tup ds, v => ∃ a vs, v = .ref a ∧ TupZ H a vs ∧ Reps S H ds vs
  | .lst f ds, v => ∃ a vs, v = .ref a ∧ ListAt K S H f a vs ∧ Reps S H ds vs
  | .loc n, v => ∃ a, S.μ[n]? = some a ∧ v = .ref a
  | .gl x, v => ∃ f, mg x = some (.ref f) ∧ v = .ref f
  | .ty t, v => v = .ty t.name
  | .exn x, v => ∃ a C, v = .ref a ∧ mg x = some (.ref C) ∧ ExAt H C a
  | .oth b, v => ∃ (a : Addr) (_ : List (Key × V)), v = .ref a ∧ H a = some (.dK []) ∧ (if b then ¬ S.F a else S.O a)
def Reps (S : Sx) (H : Hp) : List D → List V → Prop
  | [], vs => vs = []
  | d :: ds, vs => ∃ v r, vs = v :: r ∧ Rep S H d v ∧ Reps S H ds r
end
def ORep (S : Sx) (H : Hp) (a : Addr) : HB → Prop
  | .lst ds => ∃ vs, H a = some (.lst vs) ∧ Reps K mg S H ds vs
  | .dct kvs => ∃ kws, H a = some (.dK kws) ∧ kws.map (·.1) = kvs.map (·.1) ∧ Reps K mg S H (kvs.map (·.2)) (kws.map (·.2))
  | .ins c fs => ∃ C dx fvs, mg c = some (.ref C) ∧ Cls K C ∧ H a = some (.ins C dx fvs) ∧ fvs.map (·.1) = fs.map (·.1) ∧ Reps K mg S H (fs.map (·.2)) (fvs.map (·.2))
structure Sim (S : Sx) (H : Hp) (h : PH) : Prop where
  len : S.μ.length = h.length
  nd : S.μ.Nodup
  sub : ∀ a ∈ S.μ, S.F a
  no : ∀ a ∈ S.μ, ¬ S.O a
  fn : ∀ a, S.F a → H a ≠ none
  on : ∀ a, S.O a → H a ≠ none
  obj : ∀ (n : Nat) o, h[n]? = some o → ∃ a, S.μ[n]? = some a ∧ ORep K mg S H a o
def EnvR (S : Sx) (H : Hp) (ρ : Rho) (σ : L2.St) : Prop :=
  ρ.length = σ.length ∧ ∀ (i : Nat) d, ρ[i]? = some (some d) → ∃ v, σ[i]? = some (some v) ∧ Rep K mg S H d v
end
structure Ext (S : Sx) (H : Hp) (S' : Sx) (H' : Hp) : Prop where
  o : S'.O = S.O
  mu : ∃ ν, S'.μ = S.μ ++ ν ∧ ∀ a ∈ ν, H a = none
  fr : ∀ a, S'.F a → S.F a ∨ H a = none
  fm : ∀ a, S.F a → S'.F a
  keep : ∀ a o, a ∉ S.μ → H a = some o → H' a = some o
theorem Ext.refl {S : Sx} {H : Hp} : Ext S H S H := ⟨rfl, ⟨[], by simp, fun a h => by cases h⟩, fun a h => .inl h, fun a h => h, fun a o _ h => h⟩
/-- only new things -/
theorem Ext.grow {S : Sx} {H H' : Hp} (k : ∀ a o, H a = some o → H' a = some o) : Ext S H S H' :=
  ⟨rfl, ⟨[], by simp, fun a h => by cases h⟩, fun a h => .inl h, fun a h => h, fun a o _ h => k a o h⟩
section
variable {K : PySem.W.Frag} {mg : Str → Option Value} {S S' S'' : Sx} {H H' H'' : Hp} {h h' : PH} {d : D} {v : V} {ds : List D} {vs : List V} {ρ : Rho} {σ : L2.St}
theorem Sim.find (sim : Sim K mg S H h) {a : Addr} (ha : a ∈ S.μ) : ∃ (n : Nat) (o : HB), h[n]? = some o ∧ S.μ[n]? = some a ∧ ORep K mg S H a o := by
  obtain ⟨n, hn⟩ := List.getElem?_of_mem ha
  have hl : n < h.length := by
    have := (List.getElem?_eq_some_iff.mp hn).1
    rw [sim.len] at this
    exact this
  obtain ⟨b, hb, hO⟩ := sim.obj n h[n] (List.getElem?_eq_getElem hl)
  rw [hn] at hb
  cases hb
  exact ⟨n, h[n], List.getElem?_eq_getElem hl, hn, hO⟩
theorem Sim.live (sim : Sim K mg S H h) {a : Addr} (ha : a ∈ S.μ) : H a ≠ none := by
  obtain ⟨n, o, _, _, hO⟩ := sim.find ha
  cases o with
  | lst ds => obtain ⟨vs, e, _⟩ := hO; rw [e]; simp
  | dct kvs => obtain ⟨vs, e, _⟩ := hO; rw [e]; simp
  | ins c fs => obtain ⟨_, _, _, _, _, e, _⟩ := hO; rw [e]; simp
theorem Sim.notTup (sim : Sim K mg S H h) {a : Addr} {xs : List V} (e : Rd H a (.tup xs)) : a ∉ S.μ := fun ha => by
  obtain ⟨n, o, _, _, hO⟩ := sim.find ha
  cases o with
  | lst ds =>
    obtain ⟨vs, e2, _⟩ := hO
    rcases e with e | ⟨o, e⟩ <;> (rw [e2] at e; cases e)
  | dct kvs =>
    obtain ⟨vs, e2, _⟩ := hO
    rcases e with e | ⟨o, e⟩ <;> (rw [e2] at e; cases e)
  | ins c fs =>
    obtain ⟨_, _, _, _, _, e2, _⟩ := hO
    rcases e with e | ⟨o, e⟩ <;> (rw [e2] at e; cases e)
theorem Sim.notFrz (sim : Sim K mg S H h) {a : Addr} {o : Obj} {u : HO} (e : H a = some (.frz o u)) : a ∉ S.μ := fun ha => by
  obtain ⟨n, po, _, _, hO⟩ := sim.find ha
  cases po with
  | lst ds => obtain ⟨vs, e2, _⟩ := hO; rw [e2] at e; cases e
  | dct kvs => obtain ⟨vs, e2, _⟩ := hO; rw [e2] at e; cases e
  | ins c fs => obtain ⟨_, _, _, _, _, e2, _⟩ := hO; rw [e2] at e; cases e
theorem Sim.notZ (sim : Sim K mg S H h) {a : Addr} {xs : List V} (t : TupZ H a xs) : a ∉ S.μ := let ⟨o, _, e⟩ := t; sim.notTup (.inr ⟨o, e⟩)
theorem Sim.notExt (sim : Sim K mg S H h) {a : Addr} {o : HO} (e : H a = some o) (c : (∃ φ, o = .ext φ) ∨ (∃ fs, o = .xd fs)) : a ∉ S.μ := fun ha => by
  obtain ⟨n, po, _, _, hO⟩ := sim.find ha
  have no : ∀ {u : HO}, H a = some u → u = o := fun q => by rw [e] at q; exact (Option.some.inj q).symm
  cases po with
  | lst ds => obtain ⟨vs, e2, _⟩ := hO; have := no e2; subst this; rcases c with ⟨_, c⟩ | ⟨_, c⟩ <;> cases c
  | dct kvs => obtain ⟨vs, e2, _⟩ := hO; have := no e2; subst this; rcases c with ⟨_, c⟩ | ⟨_, c⟩ <;> cases c
  | ins c fs => obtain ⟨_, _, _, _, _, e2, _⟩ := hO; have := no e2; subst this; rcases c with ⟨_, c⟩ | ⟨_, c⟩ <;> cases c
theorem Ext.trans (s' : Sim K mg S' H' h') (e : Ext S H S' H') (f : Ext S' H' S'' H'') : Ext S H S'' H'' := by
  obtain ⟨ν, hν, n1⟩ := e.mu
  obtain ⟨ν', hν', n2⟩ := f.mu
  have back : ∀ a, H' a = none → H a = none := fun a ha => by
    cases q : H a with
    | none => rfl
    | some o =>
      exfalso
      by_cases hm : a ∈ S.μ
      · exact s'.live (by rw [hν]; exact List.mem_append_left _ hm) ha
      · rw [e.keep a o hm q] at ha
        cases ha
  refine ⟨f.o.trans e.o, ⟨ν ++ ν', by rw [hν', hν, List.append_assoc], fun a ha => ?_⟩, fun a ha => ?_, fun a ha => f.fm a (e.fm a ha), fun a o hm q => ?_⟩
  · rcases List.mem_append.mp ha with ha | ha
    · exact n1 a ha
    · exact back a (n2 a ha)
  · rcases f.fr a ha with q | q
    · exact e.fr a q
    · exact .inr (back a q)
  · refine f.keep a o (fun hm' => ?_) (e.keep a o hm q)
    rw [hν] at hm'
    rcases List.mem_append.mp hm' with z | z
    · exact hm z
    · rw [n1 a z] at q
      cases q
theorem Rd.keep {u : HO} {a : Addr} (k : ∀ o, H a = some o → H' a = some o) (r : Rd H a u) : Rd H' a u := by
  rcases r with r | ⟨o, r⟩
  · exact .inl (k _ r)
  · exact .inr ⟨o, k _ r⟩
theorem SqT.keep {a : Addr} (k : ∀ (xs : List V), Rd H a (.tup xs) → Rd H' a (.tup xs)) (r : SqT K H a vs) : SqT K H' a vs := by
  rcases r with r | r
  · exact .inl (k _ r)
  · exact .inr r
mutual
theorem Rep.mono (sim : Sim K mg S H h) (e : Ext S H S' H') : ∀ (d : D) (v : V), Rep K mg S H d v → Rep K mg S' H' d v
  | .non, _, r => r
  | .bl _, _, r => r
  | .int _, _, r => r
  | .str _, _, r => r
  | .tup ds, v, r => by
    obtain ⟨a, vs, rfl, t, q⟩ := r
    exact ⟨a, vs, rfl, t.at fun o z => e.keep a o (sim.notZ t) z, Reps.mono sim e ds vs q⟩
  | .lst f ds, v, r => by
    obtain ⟨a, vs, rfl, t, q⟩ := r
    refine ⟨a, vs, rfl, ?_, Reps.mono sim e ds vs q⟩
    cases f with
    | own =>
      obtain ⟨t1, t2⟩ := t
      refine ⟨e.keep a _ (fun z => t2 (sim.sub a z)) t1, fun z => ?_⟩
      rcases e.fr a z with z | z
      · exact t2 z
      · rw [z] at t1; cases t1
    | bor =>
      obtain ⟨t1, t2⟩ := t
      exact ⟨e.keep a _ (fun z => sim.no a z t2) t1, by rw [e.o]; exact t2⟩
    | cst =>
      rcases t with ⟨o, t⟩ | t | ⟨t1, t2⟩
      · exact .inl ⟨o, e.keep a _ (sim.notFrz t) t⟩
      · exact .inr (.inl t)
      · exact .inr (.inr ⟨e.keep a _ (fun z => sim.no a z t2) t1, by rw [e.o]; exact t2⟩)
  | .loc n, v, r => by
    obtain ⟨a, t, rfl⟩ := r
    obtain ⟨ν, hν, _⟩ := e.mu
    refine ⟨a, ?_, rfl⟩
    rw [hν, List.getElem?_append_left (List.getElem?_eq_some_iff.mp t).1]
    exact t
  | .gl _, _, r => r
  | .ty _, _, r => r
  | .exn _, _, r => by
    obtain ⟨a, C, rfl, g, t⟩ := r
    exact ⟨a, C, rfl, g, t.map fun b o q c => e.keep b _ (sim.notExt q c) q⟩
  | .oth true, _, r => by
    obtain ⟨a, kws, rfl, t, q⟩ := r
    have q : ¬ S.F a := q
    refine ⟨a, kws, rfl, e.keep a _ (fun z => q (sim.sub a z)) t, ?_⟩
    show ¬ S'.F a
    intro z
    rcases e.fr a z with z | z
    · exact q z
    · rw [z] at t; cases t
  | .oth false, _, r => by
    obtain ⟨a, kws, rfl, t, q⟩ := r
    have q : S.O a := q
    refine ⟨a, kws, rfl, e.keep a _ (fun z => sim.no a z q) t, ?_⟩
    show S'.O a
    rw [e.o]; exact q
theorem Reps.mono (sim : Sim K mg S H h) (e : Ext S H S' H') : ∀ (ds : List D) (vs : List V), Reps K mg S H ds vs → Reps K mg S' H' ds vs
  | [], _, r => r
  | d :: ds, vs, r => by
    obtain ⟨v, r', rfl, q, t⟩ := r
    exact ⟨v, r', rfl, Rep.mono sim e d v q, Reps.mono sim e ds r' t⟩
end
theorem EnvR.mono (sim : Sim K mg S H h) (e : Ext S H S' H') (r : EnvR K mg S H ρ σ) : EnvR K mg S' H' ρ σ :=
  ⟨r.1, fun i d q => by
    obtain ⟨v, q1, q2⟩ := r.2 i d q
    exact ⟨v, q1, Rep.mono sim e d v q2⟩⟩
theorem EnvR.set {i : Nat} (r : EnvR K mg S H ρ σ) (q : Rep K mg S H d v) : EnvR K mg S H (ρ.set i (some d)) (σ.set i (some v)) := by
  refine ⟨by simp [r.1], fun j d' e => ?_⟩
  by_cases hj : i = j
  · subst hj
    rw [List.getElem?_set] at e
    simp only [if_true] at e
    split at e
    · rename_i hl
      cases e
      exact ⟨v, by rw [List.getElem?_set]; simp [← r.1, hl], q⟩
    · cases e
  · rw [List.getElem?_set_ne hj] at e
    obtain ⟨w, q1, q2⟩ := r.2 j d' e
    exact ⟨w, by rw [List.getElem?_set_ne hj]; exact q1, q2⟩
theorem EnvR.unset {i : Nat} (r : EnvR K mg S H ρ σ) : EnvR K mg S H (ρ.set i none) (σ.set i none) := by
  refine ⟨by simp [r.1], fun j d' e => ?_⟩
  by_cases hj : i = j
  · subst hj
    rw [List.getElem?_set] at e
    simp only [if_true] at e
    split at e <;> cases e
  · rw [List.getElem?_set_ne hj] at e
    obtain ⟨w, q1, q2⟩ := r.2 j d' e
    exact ⟨w, by rw [List.getElem?_set_ne hj]; exact q1, q2⟩
theorem Reps.length : ∀ {ds : List D} {vs : List V}, Reps K mg S H ds vs → vs.length = ds.length
  | [], _, r => by
    have r : _ = [] := r
    subst r
    rfl
  | d :: ds, vs, r => by
    obtain ⟨v, r', rfl, q, t⟩ := r
    simp [Reps.length t]
theorem Reps.get : ∀ {ds : List D} {vs : List V} {i : Nat} {d : D}, Reps K mg S H ds vs → ds[i]? = some d → ∃ v, vs[i]? = some v ∧ Rep K mg S H d v
  | [], _, _, _, _, e => by simp at e
  | d :: ds, vs, 0, d', r, e => by
    obtain ⟨v, r', rfl, q, t⟩ := r
    simp at e
    subst e
    exact ⟨v, rfl, q⟩
  | d :: ds, vs, i + 1, d', r, e => by
    obtain ⟨v, r', rfl, q, t⟩ := r
    obtain ⟨w, h1, h2⟩ := Reps.get (i := i) t (by simpa using e)
    exact ⟨w, by simpa using h1, h2⟩
theorem Reps.append : ∀ {ds es : List D} {vs ws : List V}, Reps K mg S H ds vs → Reps K mg S H es ws → Reps K mg S H (ds ++ es) (vs ++ ws)
  | [], _, _, _, r, q => by
    have r : _ = [] := r
    subst r
    exact q
  | d :: ds, es, vs, ws, r, q => by
    obtain ⟨v, r', rfl, q', t⟩ := r
    exact ⟨v, r' ++ ws, rfl, q', Reps.append t q⟩
theorem Reps.one (q : Rep K mg S H d v) : Reps K mg S H [d] [v] := ⟨v, [], rfl, q, rfl⟩
theorem Reps.drop : ∀ {ds : List D} {vs : List V} (n : Nat), Reps K mg S H ds vs → Reps K mg S H (ds.drop n) (vs.drop n)
  | _, _, 0, r => r
  | [], _, n + 1, r => by
    have r : _ = [] := r
    subst r
    exact rfl
  | d :: ds, vs, n + 1, r => by
    obtain ⟨v, r', rfl, q', t⟩ := r
    exact Reps.drop n t
theorem Reps.take : ∀ {ds : List D} {vs : List V} (n : Nat), Reps K mg S H ds vs → Reps K mg S H (ds.take n) (vs.take n)
  | _, _, 0, r => rfl
  | [], _, n + 1, r => by
    have r : _ = [] := r
    subst r
    exact rfl
  | d :: ds, vs, n + 1, r => by
    obtain ⟨v, r', rfl, q', t⟩ := r
    exact ⟨v, _, rfl, q', Reps.take n t⟩
theorem Reps.set : ∀ {ds : List D} {vs : List V} (n : Nat), Reps K mg S H ds vs → Rep K mg S H d v → Reps K mg S H (ds.set n d) (vs.set n v)
  | [], _, n, r, _ => by
    have r : _ = [] := r
    subst r
    exact rfl
  | e :: ds, vs, 0, r, q => by
    obtain ⟨w, r', rfl, q', t⟩ := r
    exact ⟨v, _, rfl, q, t⟩
  | e :: ds, vs, n + 1, r, q => by
    obtain ⟨w, r', rfl, q', t⟩ := r
    exact ⟨w, _, rfl, q', Reps.set n t q⟩
theorem Reps.nil_iff (r : Reps K mg S H ds vs) : vs = [] ↔ ds = [] := by
  have e := Reps.length r
  constructor
  · rintro rfl
    exact List.length_eq_zero_iff.mp e.symm
  · rintro rfl
    exact r

theorem nodup_at {α : Type} {l : List α} (nd : l.Nodup) {i j : Nat} {x : α} (a : l[i]? = some x) (b : l[j]? = some x) : i = j := by
  obtain ⟨h1, e1⟩ := List.getElem?_eq_some_iff.mp a
  obtain ⟨h2, e2⟩ := List.getElem?_eq_some_iff.mp b
  exact (List.getElem_inj nd).mp (e1.trans e2.symm)
/-! ### steps of the heap -/
theorem ORep.mono (sim : Sim K mg S H h) (e : Ext S H S' H') {a : Addr} {o : HB} (k : ∀ o, H a = some o → H' a = some o) (r : ORep K mg S H a o) : ORep K mg S' H' a o := by
  cases o with
  | lst ds => obtain ⟨vs, e1, q⟩ := r; exact ⟨vs, k _ e1, Reps.mono sim e ds vs q⟩
  | dct kvs => obtain ⟨kws, e1, e2, q⟩ := r; exact ⟨kws, k _ e1, e2, Reps.mono sim e _ _ q⟩
  | ins c fs => obtain ⟨C, dx, fvs, e0, ec, e1, e2, q⟩ := r; exact ⟨C, dx, fvs, e0, ec, k _ e1, e2, Reps.mono sim e _ _ q⟩
theorem Sim.grow (sim : Sim K mg S H h) (k : ∀ a o, H a = some o → H' a = some o) : Sim K mg S H' h := by
  refine ⟨sim.len, sim.nd, sim.sub, sim.no, fun a ha => ?_, fun a ha => ?_, fun n o e => ?_⟩
  · cases q : H a with
    | none => exact absurd q (sim.fn a ha)
    | some o => rw [k a o q]; simp
  · cases q : H a with
    | none => exact absurd q (sim.on a ha)
    | some o => rw [k a o q]; simp
  · obtain ⟨a, ha, r⟩ := sim.obj n o e
    exact ⟨a, ha, r.mono sim (Ext.grow k) (k a)⟩
theorem new_keep {p : Addr} {o : HO} (np : H p = none) : ∀ a u, H a = some u → upd H p o a = some u := fun a u e => by
  rw [upd_ne (ne_of_none e np)]
  exact e
/-- a new tracked object -/
def Sx.push (S : Sx) (p : Addr) : Sx := ⟨S.O, fun a => S.F a ∨ a = p, S.μ ++ [p]⟩
theorem Ext.push {p : Addr} {o : HO} (np : H p = none) : Ext S H (S.push p) (upd H p o) :=
  ⟨rfl, ⟨[p], rfl, fun a ha => by rw [List.mem_singleton.mp ha]; exact np⟩, fun a ha => ha.imp id (fun e => by rw [e]; exact np), fun a ha => .inl ha, fun a u _ e => new_keep np a u e⟩
theorem Sim.push {p : Addr} {o : HO} {po : HB} (sim : Sim K mg S H h) (np : H p = none) (q : ORep K mg (S.push p) (upd H p o) p po) : Sim K mg (S.push p) (upd H p o) (h ++ [po]) := by
  have hp : p ∉ S.μ := fun z => sim.live z np
  refine ⟨by simp [Sx.push, sim.len], ?_, fun a ha => ?_, fun a ha => ?_, fun a ha => ?_, fun a ha => ?_, fun n o' e => ?_⟩
  · show (S.μ ++ [p]).Nodup
    refine List.nodup_append.mpr ⟨sim.nd, by simp, fun a ha b hb => ?_⟩
    rw [List.mem_singleton.mp hb]
    rintro rfl
    exact hp ha
  · rcases List.mem_append.mp ha with z | z
    · exact .inl (sim.sub a z)
    · exact .inr (List.mem_singleton.mp z)
  · rcases List.mem_append.mp ha with z | z
    · exact sim.no a z
    · rw [List.mem_singleton.mp z]
      exact fun z => sim.on p z np
  · rcases ha with ha | rfl
    · cases q : H a with
      | none => exact absurd q (sim.fn a ha)
      | some o => rw [new_keep np a _ q]; simp
    · rw [upd_same]; simp
  · cases q : H a with
    | none => exact absurd q (sim.on a ha)
    | some o => rw [new_keep np a _ q]; simp
  · by_cases hn : n < h.length
    · rw [List.getElem?_append_left hn] at e
      obtain ⟨a, ha, r⟩ := sim.obj n o' e
      refine ⟨a, ?_, r.mono sim (Ext.push np) (new_keep np a)⟩
      show (S.μ ++ [p])[n]? = _
      rw [List.getElem?_append_left (by rw [sim.len]; exact hn)]
      exact ha
    · have hn' : n = h.length := by
        have := (List.getElem?_eq_some_iff.mp e).1
        simp at this
        omega
      subst hn'
      rw [List.getElem?_append_right (Nat.le_refl _)] at e
      simp at e
      subst e
      refine ⟨p, ?_, q⟩
      show (S.μ ++ [p])[h.length]? = _
      rw [List.getElem?_append_right (by rw [sim.len]; exact Nat.le_refl _), sim.len]
      simp
/-- a tracked object written -/
theorem Ext.write {p : Addr} {o : HO} (hp : p ∈ S.μ) : Ext S H S (upd H p o) :=
  ⟨rfl, ⟨[], by simp, fun a h => by cases h⟩, fun a h => .inl h, fun a h => h, fun a u hm e => by
    rw [upd_ne (fun z => hm (by rw [z]; exact hp))]
    exact e⟩
theorem Sim.write {n : Nat} {p : Addr} {o : HO} {po : HB} (sim : Sim K mg S H h) (hp : S.μ[n]? = some p) (q : ORep K mg S (upd H p o) p po) : Sim K mg S (upd H p o) (h.set n po) := by
  have hm : p ∈ S.μ := List.mem_of_getElem? hp
  refine ⟨by simp [sim.len], sim.nd, sim.sub, sim.no, fun a ha => ?_, fun a ha => ?_, fun m o' e => ?_⟩
  · by_cases z : a = p
    · rw [z, upd_same]; simp
    · rw [upd_ne z]; exact sim.fn a ha
  · by_cases z : a = p
    · rw [z, upd_same]; simp
    · rw [upd_ne z]; exact sim.on a ha
  · by_cases hj : n = m
    · subst hj
      rw [List.getElem?_set] at e
      simp only [if_true] at e
      split at e
      · cases e
        exact ⟨p, hp, q⟩
      · cases e
    · rw [List.getElem?_set_ne hj] at e
      obtain ⟨a, ha, r⟩ := sim.obj m o' e
      refine ⟨a, ha, r.mono sim (Ext.write hm) fun u z => ?_⟩
      rw [upd_ne]
      · exact z
      · rintro rfl
        exact hj (nodup_at sim.nd hp ha)
end
end R
namespace R
open PySem PySem.Spec PyProof.Rows L2

/-! ### what is wanted of an outcome -/
def ExcW (mg : Str → Option Value) (E : XK) (e : Ex) (H : Hp) : Prop :=
  match e.line with
  | none => ∀ C, mg e.cls = some (.ref C) → E (.ref C) none H
  | some i => ∀ C d, mg e.cls = some (.ref C) → H d = some (.xd [("line", .int i)]) → E (.ref C) (some d) H
section
variable (K : PySem.W.Frag) (mg : Str → Option Value) (E : XK)
def Post {α β : Type} (rel : Sx → Hp → α → β → Prop) (S : Sx) (H : Hp) (o : Out α) (Q : β → Hp → Prop) : Prop :=
  match o with
  | .ok a h' => ∀ b S' H', Ext S H S' H' → Sim K mg S' H' h' → rel S' H' a b → Q b H'
  | .exc e h' => ∀ S' H', Ext S H S' H' → Sim K mg S' H' h' → ExcW mg E e H'
  | .stuck => False
def tG {α β : Type} (rel : Sx → Hp → α → β → Prop) (m : Rho → PH → Out α) (σ : L2.St) (H : Hp) (Q : β → Hp → Prop) : Prop :=
  ∃ S ρ h, Sim K mg S H h ∧ EnvR K mg S H ρ σ ∧ Post K mg E rel S H (m ρ h) Q
end
abbrev relEq {α : Type} : Sx → Hp → α → α → Prop := fun _ _ a b => a = b
section
variable {K : PySem.W.Frag} {mg : Str → Option Value} {E : XK} {α β γ δ : Type} {rel : Sx → Hp → α → β → Prop} {rel' : Sx → Hp → γ → δ → Prop} {S S' : Sx} {H H' : Hp} {h h' : PH} {ρ : Rho} {σ : L2.St}
theorem Post.mono {o : Out α} {Q : β → Hp → Prop} (s' : Sim K mg S' H' h') (e : Ext S H S' H') (p : Post K mg E rel S H o Q) : Post K mg E rel S' H' o Q := by
  cases o with
  | ok a h1 => exact fun b S2 H2 e2 sim r => p b S2 H2 (e.trans s' e2) sim r
  | exc x h1 => exact fun S2 H2 e2 sim => p S2 H2 (e.trans s' e2) sim
  | stuck => exact p
theorem Post.imp {o : Out α} {Q Q' : β → Hp → Prop} (p : Post K mg E rel S H o Q) (w : ∀ b H, Q b H → Q' b H) : Post K mg E rel S H o Q' := by
  cases o with
  | ok a h1 => exact fun b S2 H2 e2 sim r => w _ _ (p b S2 H2 e2 sim r)
  | exc x h1 => exact p
  | stuck => exact p
theorem Post.get {a : α} {b : β} {Q : β → Hp → Prop} (p : Post K mg E rel S H (.ok a h) Q) (sim : Sim K mg S H h) (r : rel S H a b) : Q b H := p b S H Ext.refl sim r
/-- the first part runs, then what is wanted of the rest -/
theorem Post.seq {o : Out α} {k : α → PH → Out γ} {Q : δ → Hp → Prop} {Q1 : β → Hp → Prop} (p : Post K mg E rel' S H (o.bind k) Q)
    (w : ∀ b S1 H1 h1 a, Ext S H S1 H1 → Sim K mg S1 H1 h1 → rel S1 H1 a b → Post K mg E rel' S1 H1 (k a h1) Q → Q1 b H1) : Post K mg E rel S H o Q1 := by
  cases o with
  | ok a h1 => exact fun b S2 H2 e2 sim r => w b S2 H2 h1 a e2 sim r (Post.mono sim e2 p)
  | exc x h1 => exact p
  | stuck => exact p
theorem tG_seq {m : Rho → PH → Out α} {k : α → PH → Out γ} {Q : δ → Hp → Prop} {Q1 : β → Hp → Prop} (sim : Sim K mg S H h) (env : EnvR K mg S H ρ σ) (p : Post K mg E rel' S H ((m ρ h).bind k) Q)
    (w : ∀ b S1 H1 h1 a, Ext S H S1 H1 → Sim K mg S1 H1 h1 → rel S1 H1 a b → EnvR K mg S1 H1 ρ σ → Post K mg E rel' S1 H1 (k a h1) Q → Q1 b H1) : tG K mg E rel m σ H Q1 :=
  ⟨S, ρ, h, sim, env, Post.seq p fun b S1 H1 h1 a e s r q => w b S1 H1 h1 a e s r (env.mono sim e) q⟩
end

/-! ### the judgements -/
section
variable (X : Cx) (E : XK)
def RE (e : Expr) (m : EM) : Prop := PE X e (tG X.K X.mg E (Rep X.K X.mg) m)
def RT (e : Expr) (m : TM) : Prop := PT X e (tG X.K X.mg E relEq m)
def RW (e : Expr) (m : TM) : Prop := PW X e (tG X.K X.mg E relEq m)
def RA (es : List Expr) (m : AM) : Prop := PA X es (tG X.K X.mg E (Reps X.K X.mg) m)
def RO (e : Option Expr) (m : Rho → PH → Out (Option Int)) : Prop := PO X e (tG X.K X.mg E relEq m)
end
section
variable {X : Cx}
theorem PE.weak {e : Expr} {t t' : TE} (h : PE X e t) (w : ∀ σ H Q, t' σ H Q → t σ H Q) : PE X e t' := ⟨fun pins s σ H Q I q => h.run pins s σ H Q I (w σ H Q q)⟩
theorem PT.weak {e : Expr} {t t' : TT} (h : PT X e t) (w : ∀ σ H Q, t' σ H Q → t σ H Q) : PT X e t' := ⟨fun pins s σ H Q I q => h.run pins s σ H Q I (w σ H Q q)⟩
theorem PW.weak {e : Expr} {t t' : TT} (h : PW X e t) (w : ∀ σ H Q, t' σ H Q → t σ H Q) : PW X e t' := ⟨fun wh pins s σ H Q I q => h.run wh pins s σ H Q I (w σ H Q q)⟩
theorem PA.weak {e : List Expr} {t t' : TA} (h : PA X e t) (w : ∀ σ H Q, t' σ H Q → t σ H Q) : PA X e t' := ⟨fun ps pins s σ H Q I q => h.run ps pins s σ H Q I (w σ H Q q)⟩
theorem PO.weak {e : Option Expr} {t t' : TO} (h : PO X e t) (w : ∀ σ H Q, t' σ H Q → t σ H Q) : PO X e t' := ⟨fun pins s σ H Q I q => h.run pins s σ H Q I (w σ H Q q)⟩
end

/-! ### the semantics of expressions -/
def eVar (i : Nat) (ρ : Rho) (h : PH) : Out D := match ρ[i]? with
  | some (some d) => .ok d h
  | _ => .stuck
def eC (d : D) (_ : Rho) (h : PH) : Out D := .ok d h
def eBin (f : D → D → PH → Out D) (a b : EM) (ρ : Rho) (h : PH) : Out D := (a ρ h).bind fun x h1 => (b ρ h1).bind fun y h2 => f x y h2
def eUn (f : D → PH → Out D) (a : EM) (ρ : Rho) (h : PH) : Out D := (a ρ h).bind f
def eChain (f g : D → D → PH → Out D) (a b c : EM) (ρ : Rho) (h : PH) : Out D := (a ρ h).bind fun x h1 => (b ρ h1).bind fun y h2 => (f x y h2).bind fun z h3 => match z with
  | .bl true => (c ρ h3).bind fun w h4 => g y w h4
  | .bl false => .ok (.bl false) h3
  | _ => .stuck
def eAnd (a b : EM) (ρ : Rho) (h : PH) : Out D := (a ρ h).bind fun x h1 => match x with
  | .bl true => b ρ h1
  | .bl false => .ok (.bl false) h1
  | _ => .stuck
def eOr (a b : EM) (ρ : Rho) (h : PH) : Out D := (a ρ h).bind fun x h1 => match x with
  | .bl false => b ρ h1
  | .bl true => .ok (.bl true) h1
  | _ => .stuck
def eNot (a : EM) (ρ : Rho) (h : PH) : Out D := (a ρ h).bind fun x h1 => match x with
  | .bl b => .ok (.bl (!b)) h1
  | _ => .stuck
def tVal (a : EM) (ρ : Rho) (h : PH) : Out Bool := (a ρ h).bind fun x h1 => match x with
  | .bl b => .ok b h1
  | _ => .stuck
def tAndM (a b : TM) (ρ : Rho) (h : PH) : Out Bool := (a ρ h).bind fun x h1 => match x with
  | true => b ρ h1
  | false => .ok false h1
def tOrM (a b : TM) (ρ : Rho) (h : PH) : Out Bool := (a ρ h).bind fun x h1 => match x with
  | true => .ok true h1
  | false => b ρ h1
def tNotM (a : TM) (ρ : Rho) (h : PH) : Out Bool := (a ρ h).bind fun x h1 => .ok (!x) h1
def aNil (_ : Rho) (h : PH) : Out (List D) := .ok [] h
def aCons (a : EM) (r : AM) (ρ : Rho) (h : PH) : Out (List D) := (a ρ h).bind fun x h1 => (r ρ h1).bind fun xs h2 => .ok (x :: xs) h2
def oNone (_ : Rho) (h : PH) : Out (Option Int) := .ok none h
def oSome (a : EM) (ρ : Rho) (h : PH) : Out (Option Int) := (a ρ h).bind fun x h1 => match x with
  | .int i => .ok (some i) h1
  | _ => .stuck
/-- a new list: frozen, or an object -/
def mkL (fz : Bool) (ds : List D) (h : PH) : Out D := match fz with
  | true => .ok (.lst .own ds) h
  | false => .ok (.loc h.length) (h ++ [.lst ds])
@[simp] def sizeOk (n : Nat) : Bool := decide (n ≤ sizeLine)
def eTup (a : AM) (ρ : Rho) (h : PH) : Out D := (a ρ h).bind fun xs h1 => if sizeOk xs.length then .ok (.tup xs) h1 else .stuck
def eLst (fz : Bool) (a : AM) (ρ : Rho) (h : PH) : Out D := (a ρ h).bind fun xs h1 => if sizeOk xs.length then mkL fz xs h1 else .stuck
def eCallB (f : List D → PH → Out D) (a : AM) (ρ : Rho) (h : PH) : Out D := (a ρ h).bind f
@[simp] def getL (h : PH) : D → Option (List D)
  | .lst _ ds => some ds
  | .loc n => match h[n]? with
    | some (.lst ds) => some ds
    | _ => none
  | _ => none
/-- a list that may be read as a tracked one -/
@[simp] def getLx (h : PH) : D → Option (List D)
  | .lst .cst _ => none
  | .lst _ ds => some ds
  | .loc n => match h[n]? with
    | some (.lst ds) => some ds
    | _ => none
  | _ => none
@[simp] def getSeq (h : PH) : D → Option (List D)
  | .tup ds => some ds
  | d => getL h d
section
variable {K : PySem.W.Frag} {mg : Str → Option Value} {E : XK} {S S' : Sx} {H H' : Hp} {h h' : PH} {ρ : Rho} {σ : L2.St} {d : D} {v : V} {ds : List D} {vs : List V} {Q : VK}
theorem getL_ok (sim : Sim K mg S H h) (r : Rep K mg S H d v) (e : getL h d = some ds) : ∃ a vs, v = .ref a ∧ SqL K H a vs ∧ Reps K mg S H ds vs := by
  cases d with
  | lst f xs =>
    cases e
    obtain ⟨a, vs, rfl, t, q⟩ := r
    refine ⟨a, vs, rfl, ?_, q⟩
    cases f with
    | own => exact .inl (.inl t.1)
    | bor => exact .inl (.inl t.1)
    | cst =>
      rcases t with ⟨o, t⟩ | t | t
      · exact .inl (.inr ⟨o, t⟩)
      · exact .inr t
      · exact .inl (.inl t.1)
  | loc n =>
    obtain ⟨a, ha, rfl⟩ := r
    simp only [getL] at e
    split at e
    · rename_i xs eh
      cases e
      obtain ⟨b, hb, hO⟩ := sim.obj n _ eh
      rw [ha] at hb
      cases hb
      obtain ⟨vs, e1, q⟩ := hO
      exact ⟨a, vs, rfl, .inl (.inl e1), q⟩
    · cases e
  | _ => cases e
theorem getLx_ok (sim : Sim K mg S H h) (r : Rep K mg S H d v) (e : getLx h d = some ds) : ∃ a vs, v = .ref a ∧ H a = some (.lst vs) ∧ Reps K mg S H ds vs := by
  cases d with
  | lst f xs =>
    cases f with
    | own =>
      cases e
      obtain ⟨a, vs, rfl, t, q⟩ := r
      exact ⟨a, vs, rfl, t.1, q⟩
    | bor =>
      cases e
      obtain ⟨a, vs, rfl, t, q⟩ := r
      exact ⟨a, vs, rfl, t.1, q⟩
    | cst => cases e
  | loc n =>
    obtain ⟨a, ha, rfl⟩ := r
    simp only [getLx] at e
    split at e
    · rename_i xs eh
      cases e
      obtain ⟨b, hb, hO⟩ := sim.obj n _ eh
      rw [ha] at hb
      cases hb
      obtain ⟨vs, e1, q⟩ := hO
      exact ⟨a, vs, rfl, e1, q⟩
    · cases e
  | _ => cases e
theorem getSeq_ok (sim : Sim K mg S H h) (r : Rep K mg S H d v) (e : getSeq h d = some ds) : ∃ a vs, v = .ref a ∧ (SqL K H a vs ∨ SqT K H a vs) ∧ Reps K mg S H ds vs := by
  cases d with
  | tup xs =>
    cases e
    obtain ⟨a, vs, rfl, t, q⟩ := r
    exact ⟨a, vs, rfl, .inr t.sq, q⟩
  | lst f xs =>
    obtain ⟨a, vs, e1, t, q⟩ := getL_ok sim r e
    exact ⟨a, vs, e1, .inl t, q⟩
  | loc n =>
    obtain ⟨a, vs, e1, t, q⟩ := getL_ok sim r e
    exact ⟨a, vs, e1, .inl t, q⟩
  | _ => cases e
/-- a new tuple -/
theorem mkT_ok (sim : Sim K mg S H h) (r : Reps K mg S H ds vs) (p : Post K mg E (Rep K mg) S H (.ok (.tup ds) h) Q) {a : Addr} {H' : Hp} (n : NewZ H a vs H') : Q (.ref a) H' := by
  have g := n.keep
  refine p _ S _ (Ext.grow g) (sim.grow g) ⟨a, vs, rfl, n.tup, Reps.mono sim (Ext.grow g) ds vs r⟩
/-- a new list -/
theorem mkL_ok {fz : Bool} (sim : Sim K mg S H h) (r : Reps K mg S H ds vs) (p : Post K mg E (Rep K mg) S H (mkL fz ds h) Q) {a : Addr} (na : H a = none) : Q (.ref a) (upd H a (.lst vs)) := by
  have g := new_keep (o := .lst vs) na
  cases fz with
  | true => exact p _ S _ (Ext.grow g) (sim.grow g) ⟨a, vs, rfl, ⟨upd_same, fun z => sim.fn a z na⟩, Reps.mono sim (Ext.grow g) ds vs r⟩
  | false =>
    have e : Ext S H (S.push a) (upd H a (.lst vs)) := Ext.push na
    refine p _ (S.push a) _ e (sim.push na ⟨vs, upd_same, Reps.mono sim e ds vs r⟩) ⟨a, ?_, rfl⟩
    show (S.μ ++ [a])[h.length]? = _
    rw [← sim.len]
    simp
end

/-! ### the rules of expressions -/
section
variable {X : Cx} {E : XK} {a b c e : Expr} {es : List Expr} {ma mb mc : EM} {ta tb : TM} {mas : AM} {pos p : Pos}
/-- a two-place operation's reading by the data -/
def OpS (K : PySem.W.Frag) (mg : Str → Option Value) (E : XK) (r : R2) (f : D → D → PH → Out D) : Prop :=
  ∀ S H h x y dx dy Q, Sim K mg S H h → Rep K mg S H dx x → Rep K mg S H dy y → Post K mg E (Rep K mg) S H (f dx dy h) Q → r x y H Q
def UnS (K : PySem.W.Frag) (mg : Str → Option Value) (E : XK) (r : V → Hp → VK → Prop) (f : D → PH → Out D) : Prop :=
  ∀ S H h x dx Q, Sim K mg S H h → Rep K mg S H dx x → Post K mg E (Rep K mg) S H (f dx h) Q → r x H Q
def CallS (K : PySem.W.Frag) (mg : Str → Option Value) (E : XK) (r : List V → Hp → VK → Prop) (f : List D → PH → Out D) : Prop :=
  ∀ S H h xs ds Q, Sim K mg S H h → Reps K mg S H ds xs → Post K mg E (Rep K mg) S H (f ds h) Q → r xs H Q
theorem re_var (i : Nat) {x : Str} (hN : X.N[i]? = some x := by rfl) (hv : Vis X.env.scope x := by first | exact Or.inl rfl | exact Or.inr (Or.inl rfl) | exact Or.inr (Or.inr rfl)) (hd : (x == ("__debug__" : Str)) = false := by decide)
    (hcd : (x == ("__classdict__" : Str)) = false := by decide) : RE X E (.Name x pos) (eVar i) :=
  PE.weak (pe_var hN hv hd hcd) fun σ H Q ⟨S, ρ, h, sim, env, q⟩ => by
    unfold eVar at q
    split at q
    · rename_i d e
      obtain ⟨v, e1, r⟩ := env.2 i d e
      exact ⟨v, e1, q.get sim r⟩
    · exact q.elim
theorem re_int {i : Int} {j : Nat} : RE X E (.Constant (.int i) j pos) (eC (.int i)) := PE.weak pe_int fun σ H Q ⟨S, ρ, h, sim, env, q⟩ => q.get (b := V.int i) sim rfl
theorem re_bl {i : Bool} {j : Nat} : RE X E (.Constant (.bool i) j pos) (eC (.bl i)) := PE.weak pe_bl fun σ H Q ⟨S, ρ, h, sim, env, q⟩ => q.get (b := V.bl i) sim rfl
theorem re_non {j : Nat} : RE X E (.Constant .none j pos) (eC .non) := PE.weak pe_non fun σ H Q ⟨S, ρ, h, sim, env, q⟩ => q.get (b := V.non) sim rfl
theorem re_str {i : Str} {j : Nat} : RE X E (.Constant (.str i) j pos) (eC (.str i)) := PE.weak pe_str fun σ H Q ⟨S, ρ, h, sim, env, q⟩ => q.get (b := V.str i) sim rfl
/-- a number of the module -/
theorem re_gint {x : Str} {i : Int} (hg : Gl X x) (hm : ∃ t, X.mg x = some (.int i t)) (hd : (x == ("__debug__" : Str)) = false := by decide) : RE X E (.Name x pos) (eC (.int i)) :=
  let ⟨t, hm⟩ := hm
  PE.weak (pe_glob (v := .int i) hg hm ⟨t, rfl⟩ hd) fun σ H Q ⟨S, ρ, h, sim, env, q⟩ => q.get (b := V.int i) sim rfl
/-- a def or a class of the module, by its name -/
theorem re_gl {x : Str} {f : Addr} (hg : Gl X x) (hm : X.mg x = some (.ref f)) (hd : (x == ("__debug__" : Str)) = false := by decide) : RE X E (.Name x pos) (eC (.gl x)) :=
  PE.weak (pe_glob (v := .ref f) hg hm rfl hd) fun σ H Q ⟨S, ρ, h, sim, env, q⟩ => q.get (b := V.ref f) sim ⟨f, hm, rfl⟩
/-- a built-in type by its name -/
theorem re_ty {x : Str} (n : Ty) (hg : Gl X x) (hm : X.mg x = none) (hv : bootBuiltins x = some (.type n.name)) (hn : x ≠ "__name__" := by decide) (hd : (x == ("__debug__" : Str)) = false := by decide) : RE X E (.Name x pos) (eC (.ty n)) :=
  PE.weak (pe_bltn (v := .ty n.name) hg hm hv rfl hn hd) fun σ H Q ⟨S, ρ, h, sim, env, q⟩ => q.get (b := V.ty n.name) sim rfl
theorem re_bin {op : Operator} {r : R2} {f : D → D → PH → Out D} (ho : OpR X (binaryOp op) r) (hf : OpS X.K X.mg E r f) (ha : RE X E a ma) (hb : RE X E b mb) : RE X E (.BinOp a op b pos) (eBin f ma mb) :=
  PE.weak (pe_op ho ha hb) fun σ H Q ⟨S, ρ, h, sim, env, q⟩ =>
    tG_seq sim env q fun x S1 H1 h1 dx e1 s1 r1 env1 q1 => tG_seq s1 env1 q1 fun y S2 H2 h2 dy e2 s2 r2 env2 q2 => hf S2 H2 h2 x y dx dy Q s2 (Rep.mono s1 e2 _ _ r1) r2 q2
theorem re_un {op : UnaryOp} {r : V → Hp → VK → Prop} {f : D → PH → Out D} (ho : UnR X (unaryOp op) r) (hf : UnS X.K X.mg E r f) (ha : RE X E a ma) : RE X E (.UnaryOp op a pos) (eUn f ma) :=
  PE.weak (pe_un ho ha) fun σ H Q ⟨S, ρ, h, sim, env, q⟩ => tG_seq sim env q fun x S1 H1 h1 dx e1 s1 r1 env1 q1 => hf S1 H1 h1 x dx Q s1 r1 q1
theorem re_cmp {op : CmpOp} {r : R2} {f : D → D → PH → Out D} (ho : OpR X (compareOp op) r) (hf : OpS X.K X.mg E r f) (ha : RE X E a ma) (hb : RE X E b mb) (hm : behindInMarks op b = false) : RE X E (.Compare a [op] [b] pos) (eBin f ma mb) :=
  PE.weak (pe_cmpR ho ha hb hm) fun σ H Q ⟨S, ρ, h, sim, env, q⟩ =>
    tG_seq sim env q fun x S1 H1 h1 dx e1 s1 r1 env1 q1 => tG_seq s1 env1 q1 fun y S2 H2 h2 dy e2 s2 r2 env2 q2 => hf S2 H2 h2 x y dx dy Q s2 (Rep.mono s1 e2 _ _ r1) r2 q2
/-- a value that a test asks for -/
theorem tval_ok {S : Sx} {H : Hp} {σ : L2.St} {ρ : Rho} {h : PH} {m : EM} {Q : Bool → Hp → Prop} (sim : Sim X.K X.mg S H h) (env : EnvR X.K X.mg S H ρ σ) (q : Post X.K X.mg E relEq S H (tVal m ρ h) Q) :
    Post X.K X.mg E (Rep X.K X.mg) S H (m ρ h) fun x H1 => ∃ k, x = .bl k ∧ Q k H1 :=
  Post.seq q fun x S1 H1 h1 dx e1 s1 r1 q1 => by
    cases dx with
    | bl k => exact ⟨k, r1, Post.get q1 s1 rfl⟩
    | _ => exact q1.elim
theorem rt_cmp {op : CmpOp} {r : R2} {f : D → D → PH → Out D} (ho : OpR X (compareOp op) r) (hf : OpS X.K X.mg E r f) (ha : RE X E a ma) (hb : RE X E b mb) (hm : behindInMarks op b = false) : RT X E (.Compare a [op] [b] pos) (tVal (eBin f ma mb)) :=
  PT.weak (pt_cmpR ho ha hb hm) fun σ H Q ⟨S, ρ, h, sim, env, q⟩ =>
    tG_seq sim env (tval_ok sim env q) fun x S1 H1 h1 dx e1 s1 r1 env1 q1 => tG_seq s1 env1 q1 fun y S2 H2 h2 dy e2 s2 r2 env2 q2 => hf S2 H2 h2 x y dx dy _ s2 (Rep.mono s1 e2 _ _ r1) r2 q2
theorem chain_ok {r r' : R2} {f g : D → D → PH → Out D} (hf : OpS X.K X.mg E r f) (hg : OpS X.K X.mg E r' g) {S : Sx} {H : Hp} {σ : L2.St} {ρ : Rho} {h : PH} {Q : VK} (sim : Sim X.K X.mg S H h) (env : EnvR X.K X.mg S H ρ σ)
    (q : Post X.K X.mg E (Rep X.K X.mg) S H (eChain f g ma mb mc ρ h) Q) : tChain r r' (tG X.K X.mg E (Rep X.K X.mg) ma) (tG X.K X.mg E (Rep X.K X.mg) mb) (tG X.K X.mg E (Rep X.K X.mg) mc) σ H Q :=
  tG_seq sim env q fun x S1 H1 h1 dx e1 s1 r1 env1 q1 => tG_seq s1 env1 q1 fun y S2 H2 h2 dy e2 s2 r2 env2 q2 => hf S2 H2 h2 x y dx dy _ s2 (Rep.mono s1 e2 _ _ r1) r2
    (Post.seq q2 fun z S3 H3 h3 dz e3 s3 r3 q3 => by
      cases dz with
      | bl k =>
        refine ⟨k, r3, ?_⟩
        cases k with
        | true =>
          rw [if_pos rfl]
          exact tG_seq s3 (env2.mono s2 e3) q3 fun w S4 H4 h4 dw e4 s4 r4 env4 q4 => hg S4 H4 h4 y w dy dw _ s4 (Rep.mono s3 e4 _ _ (Rep.mono s2 e3 _ _ r2)) r4 q4
        | false =>
          rw [if_neg Bool.false_ne_true]
          exact Post.get q3 s3 rfl
      | _ => exact q3.elim)
theorem re_chain {op op' : CmpOp} {r r' : R2} {f g : D → D → PH → Out D} (ho : OpR X (compareOp op) r) (ho' : OpR X (compareOp op') r') (hf : OpS X.K X.mg E r f) (hg : OpS X.K X.mg E r' g) (ha : RE X E a ma) (hb : RE X E b mb) (hc : RE X E c mc)
    (hm : lastMarks [op, op'] [b, c] = false := by with_unfolding_all rfl) : RE X E (.Compare a [op, op'] [b, c] pos) (eChain f g ma mb mc) :=
  PE.weak (pe_chain ho ho' ha hb hc hm) fun σ H Q ⟨S, ρ, h, sim, env, q⟩ => chain_ok hf hg sim env q
theorem rt_chain {op op' : CmpOp} {r r' : R2} {f g : D → D → PH → Out D} (ho : OpR X (compareOp op) r) (ho' : OpR X (compareOp op') r') (hf : OpS X.K X.mg E r f) (hg : OpS X.K X.mg E r' g) (ha : RE X E a ma) (hb : RE X E b mb) (hc : RE X E c mc)
    (hm : lastMarks [op, op'] [b, c] = false := by with_unfolding_all rfl) : RT X E (.Compare a [op, op'] [b, c] pos) (tVal (eChain f g ma mb mc)) :=
  PT.weak (pt_chain ho ho' ha hb hc hm) fun σ H Q ⟨S, ρ, h, sim, env, q⟩ => chain_ok hf hg sim env (tval_ok sim env q)
def eIsN (a : EM) (ρ : Rho) (h : PH) : Out D := (a ρ h).bind fun x h1 => match x with
  | .non => .ok (.bl true) h1
  | _ => .ok (.bl false) h1
def eNotN (a : EM) (ρ : Rho) (h : PH) : Out D := (a ρ h).bind fun x h1 => match x with
  | .non => .ok (.bl false) h1
  | _ => .ok (.bl true) h1
theorem Rep.non_iff {K : PySem.W.Frag} {mg : Str → Option Value} {S : Sx} {H : Hp} {d : D} {v : V} (r : Rep K mg S H d v) : (v = .non) ↔ d = .non := by
  cases d with
  | non => exact ⟨fun _ => rfl, fun _ => r⟩
  | bl b => cases r; simp
  | int i => cases r; simp
  | str x => cases r; simp
  | tup ds => obtain ⟨a, vs, rfl, _⟩ := r; simp
  | lst f ds => obtain ⟨a, vs, rfl, _⟩ := r; simp
  | loc n => obtain ⟨a, _, rfl⟩ := r; simp
  | gl x => obtain ⟨a, _, rfl⟩ := r; simp
  | ty n => cases r; simp
  | exn x => obtain ⟨a, _, rfl, _⟩ := r; simp
  | oth b => obtain ⟨a, _, rfl, _⟩ := r; simp
theorem isN_ok {S : Sx} {H : Hp} {σ : L2.St} {ρ : Rho} {h : PH} {Q : VK} (sim : Sim X.K X.mg S H h) (env : EnvR X.K X.mg S H ρ σ) (q : Post X.K X.mg E (Rep X.K X.mg) S H (eIsN ma ρ h) Q) : tIsN (tG X.K X.mg E (Rep X.K X.mg) ma) σ H Q :=
  tG_seq sim env q fun x S1 H1 h1 dx e1 s1 r1 env1 q1 => by
    have i := r1.non_iff
    cases dx with
    | non => rw [decide_eq_true (i.mpr rfl)]; exact Post.get (b := V.bl true) q1 s1 rfl
    | _ => rw [decide_eq_false (fun z => by cases i.mp z)]; exact Post.get (b := V.bl false) q1 s1 rfl
theorem notN_ok {S : Sx} {H : Hp} {σ : L2.St} {ρ : Rho} {h : PH} {Q : VK} (sim : Sim X.K X.mg S H h) (env : EnvR X.K X.mg S H ρ σ) (q : Post X.K X.mg E (Rep X.K X.mg) S H (eNotN ma ρ h) Q) : tNotN (tG X.K X.mg E (Rep X.K X.mg) ma) σ H Q :=
  tG_seq sim env q fun x S1 H1 h1 dx e1 s1 r1 env1 q1 => by
    have i := r1.non_iff
    cases dx with
    | non => rw [decide_eq_true (i.mpr rfl)]; exact Post.get (b := V.bl false) q1 s1 rfl
    | _ => rw [decide_eq_false (fun z => by cases i.mp z)]; exact Post.get (b := V.bl true) q1 s1 rfl
theorem re_isN {j pos'} (ha : RE X E a ma) : RE X E (.Compare a [.Is] [.Constant .none j pos'] pos) (eIsN ma) := PE.weak (pe_cmp (pc_isN ha)) fun σ H Q ⟨S, ρ, h, sim, env, q⟩ => isN_ok sim env q
theorem re_notN {j pos'} (ha : RE X E a ma) : RE X E (.Compare a [.IsNot] [.Constant .none j pos'] pos) (eNotN ma) := PE.weak (pe_cmp (pc_notN ha)) fun σ H Q ⟨S, ρ, h, sim, env, q⟩ => notN_ok sim env q
theorem rt_isN {j pos'} (ha : RE X E a ma) : RT X E (.Compare a [.Is] [.Constant .none j pos'] pos) (tVal (eIsN ma)) := PT.weak (pt_cmp (pc_isN ha)) fun σ H Q ⟨S, ρ, h, sim, env, q⟩ => isN_ok sim env (tval_ok sim env q)
theorem rt_notN {j pos'} (ha : RE X E a ma) : RT X E (.Compare a [.IsNot] [.Constant .none j pos'] pos) (tVal (eNotN ma)) := PT.weak (pt_cmp (pc_notN ha)) fun σ H Q ⟨S, ρ, h, sim, env, q⟩ => notN_ok sim env (tval_ok sim env q)
/-- a name, a call, a subscript as a test -/
theorem rt_val (ha : RE X E e ma) (he : ∀ whole, isTrue e X.env whole = (do let v ← whole; standAt e.pos; holding [v] (truthy v)) := by intro _; rfl) : RT X E e (tVal ma) :=
  PT.weak (pt_val ha he) fun σ H Q ⟨S, ρ, h, sim, env, q⟩ => ⟨S, ρ, h, sim, env, tval_ok sim env q⟩
theorem rw_and1 (ha : RT X E a ta) : RW X E (.BoolOp .And [a] pos) ta := pw_and1 ha
theorem rw_or1 (ha : RT X E a ta) : RW X E (.BoolOp .Or [a] pos) ta := pw_or1 ha
theorem rw_and (ha : RT X E a ta) (hb : RW X E (.BoolOp .And (b :: es) pos) tb) : RW X E (.BoolOp .And (a :: b :: es) pos) (tAndM ta tb) :=
  PW.weak (pw_and ha hb) fun σ H Q ⟨S, ρ, h, sim, env, q⟩ => tG_seq sim env q fun x S1 H1 h1 dx e1 s1 r1 env1 q1 => by
    have r1 : dx = x := r1
    subst r1
    cases dx with
    | true => rw [if_pos rfl]; exact ⟨S1, ρ, h1, s1, env1, q1⟩
    | false => rw [if_neg Bool.false_ne_true]; exact Post.get q1 s1 rfl
theorem rw_or (ha : RT X E a ta) (hb : RW X E (.BoolOp .Or (b :: es) pos) tb) : RW X E (.BoolOp .Or (a :: b :: es) pos) (tOrM ta tb) :=
  PW.weak (pw_or ha hb) fun σ H Q ⟨S, ρ, h, sim, env, q⟩ => tG_seq sim env q fun x S1 H1 h1 dx e1 s1 r1 env1 q1 => by
    have r1 : dx = x := r1
    subst r1
    cases dx with
    | false => rw [if_neg Bool.false_ne_true]; exact ⟨S1, ρ, h1, s1, env1, q1⟩
    | true => rw [if_pos rfl]; exact Post.get q1 s1 rfl
theorem rt_pw (h : RW X E e ta) : RT X E e ta := PW.pt h
theorem rt_not (ha : RT X E a ta) : RT X E (.UnaryOp .Not a pos) (tNotM ta) :=
  PT.weak (pt_not ha) fun σ H Q ⟨S, ρ, h, sim, env, q⟩ => tG_seq sim env q fun x S1 H1 h1 dx e1 s1 r1 env1 q1 => by
    have r1 : dx = x := r1
    subst r1
    exact Post.get q1 s1 rfl
theorem re_one {op} (ha : RE X E a ma) : RE X E (.BoolOp op [a] pos) ma := pe_one ha
theorem re_and (ha : RE X E a ma) (hb : RE X E (.BoolOp .And (b :: es) pos) mb) : RE X E (.BoolOp .And (a :: b :: es) pos) (eAnd ma mb) :=
  PE.weak (pe_and ha hb) fun σ H Q ⟨S, ρ, h, sim, env, q⟩ => tG_seq sim env q fun x S1 H1 h1 dx e1 s1 r1 env1 q1 => by
    cases dx with
    | bl k =>
      refine ⟨k, r1, ?_⟩
      cases k with
      | true => rw [if_pos rfl]; exact ⟨S1, ρ, h1, s1, env1, q1⟩
      | false => rw [if_neg Bool.false_ne_true]; exact Post.get (b := V.bl false) q1 s1 rfl
    | _ => exact q1.elim
theorem re_or (ha : RE X E a ma) (hb : RE X E (.BoolOp .Or (b :: es) pos) mb) : RE X E (.BoolOp .Or (a :: b :: es) pos) (eOr ma mb) :=
  PE.weak (pe_or ha hb) fun σ H Q ⟨S, ρ, h, sim, env, q⟩ => tG_seq sim env q fun x S1 H1 h1 dx e1 s1 r1 env1 q1 => by
    cases dx with
    | bl k =>
      refine ⟨k, r1, ?_⟩
      cases k with
      | false => rw [if_neg Bool.false_ne_true]; exact ⟨S1, ρ, h1, s1, env1, q1⟩
      | true => rw [if_pos rfl]; exact Post.get (b := V.bl true) q1 s1 rfl
    | _ => exact q1.elim
theorem re_not (ha : RE X E a ma) : RE X E (.UnaryOp .Not a pos) (eNot ma) :=
  PE.weak (pe_not ha) fun σ H Q ⟨S, ρ, h, sim, env, q⟩ => tG_seq sim env q fun x S1 H1 h1 dx e1 s1 r1 env1 q1 => by
    cases dx with
    | bl k => exact ⟨k, r1, Post.get (b := V.bl (!k)) q1 s1 rfl⟩
    | _ => exact q1.elim
theorem ra_nil : RA X E [] aNil := PA.weak pa_nil fun σ H Q ⟨S, ρ, h, sim, env, q⟩ => Post.get (b := []) q sim rfl
theorem ra_cons (ha : RE X E e ma) (hr : RA X E es mas) (hs : starEach (e :: es) X.env = (false, eval e X.env) :: starEach es X.env := by rfl) : RA X E (e :: es) (aCons ma mas) :=
  PA.weak (pa_cons ha hr hs) fun σ H Q ⟨S, ρ, h, sim, env, q⟩ => tG_seq sim env q fun x S1 H1 h1 dx e1 s1 r1 env1 q1 => tG_seq s1 env1 q1 fun y S2 H2 h2 dy e2 s2 r2 env2 q2 =>
    Post.get (b := x :: y) q2 s2 ⟨x, y, rfl, Rep.mono s1 e2 _ _ r1, r2⟩
theorem sizeOk_le {n : Nat} (h : sizeOk n = true) : n ≤ sizeLine := of_decide_eq_true h
theorem re_tup {x1} (ha : RA X E es mas) : RE X E (.Tuple es x1 pos) (eTup mas) :=
  PE.weak (pe_tupZ ha) fun σ H Q ⟨S, ρ, h, sim, env, q⟩ => tG_seq sim env q fun x S1 H1 h1 dx e1 s1 r1 env1 q1 => by
    split at q1
    · rename_i hz
      exact ⟨by rw [r1.length]; exact sizeOk_le hz, fun p H' n => mkT_ok s1 r1 q1 n⟩
    · exact q1.elim
theorem re_lst (fz : Bool) (ha : RA X E es mas) : RE X E (.List es pos) (eLst fz mas) :=
  PE.weak (pe_lst ha) fun σ H Q ⟨S, ρ, h, sim, env, q⟩ => tG_seq sim env q fun x S1 H1 h1 dx e1 s1 r1 env1 q1 => by
    split at q1
    · rename_i hz
      exact ⟨by rw [r1.length]; exact sizeOk_le hz, fun p np => mkL_ok s1 r1 q1 np⟩
    · exact q1.elim
theorem re_callB {id : String} {r : List V → Hp → VK → Prop} {f : List D → PH → Out D} {x : Str} (hc : CallR X (.builtin id) r) (hf : CallS X.K X.mg E r f) (hg : Gl X x) (hm : X.mg x = none) (hv : bootBuiltins x = some (.builtin id)) (ha : RA X E (e :: es) mas)
    (hn : x ≠ "__name__" := by decide) (hdb : (x == ("__debug__" : Str)) = false := by decide) (he : starEach (e :: es) X.env = (false, eval e X.env) :: starEach es X.env := by rfl) (hpl : (backTo pos (starEach es X.env)).any (·.1) = false := by rfl) :
    RE X E (.Call (.Name x p) (e :: es) [] pos) (eCallB f mas) :=
  PE.weak (pe_callB hc hg hm hv ha hn hdb he hpl) fun σ H Q ⟨S, ρ, h, sim, env, q⟩ => tG_seq sim env q fun x S1 H1 h1 dx e1 s1 r1 env1 q1 => hf S1 H1 h1 x dx Q s1 r1 q1
theorem re_callTy {id : String} {r : List V → Hp → VK → Prop} {f : List D → PH → Out D} {x : Str} (hc : CallR X (.type id) r) (hf : CallS X.K X.mg E r f) (hg : Gl X x) (hm : X.mg x = none) (hv : bootBuiltins x = some (.type id)) (ha : RA X E (e :: es) mas)
    (hn : x ≠ "__name__" := by decide) (hdb : (x == ("__debug__" : Str)) = false := by decide) (he : starEach (e :: es) X.env = (false, eval e X.env) :: starEach es X.env := by rfl) (hpl : (backTo pos (starEach es X.env)).any (·.1) = false := by rfl) :
    RE X E (.Call (.Name x p) (e :: es) [] pos) (eCallB f mas) :=
  PE.weak (pe_callTy hc hg hm hv ha hn hdb he hpl) fun σ H Q ⟨S, ρ, h, sim, env, q⟩ => tG_seq sim env q fun x S1 H1 h1 dx e1 s1 r1 env1 q1 => hf S1 H1 h1 x dx Q s1 r1 q1
theorem ro_none : RO X E none oNone := PO.weak po_none fun σ H Q ⟨S, ρ, h, sim, env, q⟩ => Post.get (b := none) q sim rfl
theorem ro_some (ha : RE X E e ma) : RO X E (some e) (oSome ma) := PO.weak (po_some ha) fun σ H Q ⟨S, ρ, h, sim, env, q⟩ => tG_seq sim env q fun x S1 H1 h1 dx e1 s1 r1 env1 q1 => by
    cases dx with
    | int i => exact ⟨i, r1, Post.get (b := some i) q1 s1 rfl⟩
    | _ => exact q1.elim
end
end R
namespace R
open PySem PySem.Spec PyProof.Rows L2

/-! ### readings of data -/
@[simp] def optAll {α β : Type} (f : α → Option β) : List α → Option (List β)
  | [] => some []
  | d :: r => match f d, optAll f r with
    | some b, some bs => some (b :: bs)
    | _, _ => none
theorem optAll_map {α β γ : Type} {f : α → Option β} (g : γ → α) (k : γ → β) : ∀ (l : List γ), (∀ x ∈ l, f (g x) = some (k x)) → optAll f (l.map g) = some (l.map k)
  | [], _ => rfl
  | x :: l, h => by
    simp only [List.map_cons, optAll, h x List.mem_cons_self, optAll_map g k l fun y hy => h y (List.mem_cons_of_mem _ hy)]
theorem optAll_cons {α β : Type} {f : α → Option β} {d : α} {r : List α} {bs : List β} (h : optAll f (d :: r) = some bs) : ∃ b cs, bs = b :: cs ∧ f d = some b ∧ optAll f r = some cs := by
  simp only [optAll] at h
  split at h
  · rename_i b cs e1 e2
    cases h
    exact ⟨b, cs, rfl, e1, e2⟩
  · cases h
@[simp] def asInt : D → Option Int
  | .int i => some i
  | _ => none
@[simp] def asBl : D → Option Bool
  | .bl i => some i
  | _ => none
@[simp] def asStr : D → Option Str
  | .str i => some i
  | _ => none
/-- flat data as a value -/
@[simp] def fv : D → Option V
  | .non => some .non
  | .bl b => some (.bl b)
  | .int i => some (.int i)
  | .str x => some (.str x)
  | _ => none
section
variable {K : PySem.W.Frag} {mg : Str → Option Value} {E : XK} {S S' : Sx} {H H' : Hp} {h h' : PH} {d : D} {v : V} {ds : List D} {vs : List V} {Q : VK}
theorem fv_ok {w : V} (r : Rep K mg S H d v) (e : fv d = some w) : v = w := by
  cases d <;> first | (cases e; exact r) | cases e
theorem fv_flat {w : V} (e : fv d = some w) : flatV w = true := by
  cases d <;> first | (cases e; rfl) | cases e
theorem fvs_ok : ∀ {ds : List D} {vs ws : List V}, Reps K mg S H ds vs → optAll fv ds = some ws → vs = ws ∧ ws.all flatV = true
  | [], vs, ws, r, e => by
    cases e
    have r : vs = [] := r
    exact ⟨r, rfl⟩
  | d :: ds, vs, ws, r, e => by
    obtain ⟨b, cs, rfl, e1, e2⟩ := optAll_cons e
    obtain ⟨v, r', rfl, q, t⟩ := r
    obtain ⟨h1, h2⟩ := fvs_ok t e2
    exact ⟨by rw [fv_ok q e1, h1], by rw [List.all_cons, fv_flat e1, h2]; rfl⟩
theorem ints_ok : ∀ {ds : List D} {vs : List V} {ns : List Int}, Reps K mg S H ds vs → optAll asInt ds = some ns → vs = ns.map V.int
  | [], vs, ws, r, e => by
    cases e
    exact r
  | d :: ds, vs, ws, r, e => by
    obtain ⟨b, cs, rfl, e1, e2⟩ := optAll_cons e
    obtain ⟨v, r', rfl, q, t⟩ := r
    cases d <;> first | cases e1 | skip
    rw [ints_ok t e2, List.map_cons]
    exact congrArg (· :: _) q
theorem bls_ok : ∀ {ds : List D} {vs : List V} {ns : List Bool}, Reps K mg S H ds vs → optAll asBl ds = some ns → vs = ns.map V.bl
  | [], vs, ws, r, e => by
    cases e
    exact r
  | d :: ds, vs, ws, r, e => by
    obtain ⟨b, cs, rfl, e1, e2⟩ := optAll_cons e
    obtain ⟨v, r', rfl, q, t⟩ := r
    cases d <;> first | cases e1 | skip
    rw [bls_ok t e2, List.map_cons]
    exact congrArg (· :: _) q
theorem strs_ok : ∀ {ds : List D} {vs : List V} {ns : List Str}, Reps K mg S H ds vs → optAll asStr ds = some ns → vs = ns.map V.str
  | [], vs, ws, r, e => by
    cases e
    exact r
  | d :: ds, vs, ws, r, e => by
    obtain ⟨b, cs, rfl, e1, e2⟩ := optAll_cons e
    obtain ⟨v, r', rfl, q, t⟩ := r
    cases d <;> first | cases e1 | skip
    rw [strs_ok t e2, List.map_cons]
    exact congrArg (· :: _) q
theorem reps_ints : ∀ (ns : List Int), Reps K mg S H (ns.map D.int) (ns.map V.int)
  | [] => rfl
  | n :: ns => ⟨_, _, rfl, rfl, reps_ints ns⟩
theorem Reps.atI {i : Int} (r : Reps K mg S H ds vs) {d : D} (e : L2.atI ds i = some d) : ∃ v, L2.atI vs i = some v ∧ Rep K mg S H d v := by
  unfold L2.atI at e ⊢
  rw [r.length]
  cases hx : ixN ds.length i with
  | none => rw [hx] at e; cases e
  | some j =>
    rw [hx] at e
    exact r.get e
theorem Reps.replicate (r : Reps K mg S H ds vs) : ∀ n : Nat, Reps K mg S H (List.replicate n ds).flatten (List.replicate n vs).flatten
  | 0 => rfl
  | n + 1 => by
    rw [List.replicate_succ, List.replicate_succ, List.flatten_cons, List.flatten_cons]
    exact r.append (Reps.replicate r n)
theorem Reps.reverse : ∀ {ds : List D} {vs : List V}, Reps K mg S H ds vs → Reps K mg S H ds.reverse vs.reverse
  | [], vs, r => by
    have r : vs = [] := r
    subst r
    exact rfl
  | d :: ds, vs, r => by
    obtain ⟨v, r', rfl, q, t⟩ := r
    rw [List.reverse_cons, List.reverse_cons]
    exact (Reps.reverse t).append (Reps.one q)
/-- a rearrangement of the values is one of the data -/
theorem Reps.perm : ∀ {vs ws : List V}, ws.Perm vs → ∀ {ds : List D}, Reps K mg S H ds vs → ∃ es : List D, es.Perm ds ∧ Reps K mg S H es ws := by
  intro vs ws p
  induction p with
  | nil => exact fun {ds} r => ⟨ds, .refl _, r⟩
  | cons x p ih =>
    intro ds r
    cases ds with
    | nil => cases r
    | cons d ds =>
      obtain ⟨v, r', e, q, t⟩ := r
      cases e
      obtain ⟨es, p', t'⟩ := ih t
      exact ⟨d :: es, p'.cons d, _, _, rfl, q, t'⟩
  | swap x y l =>
    intro ds r
    cases ds with
    | nil => cases r
    | cons d ds =>
      obtain ⟨v, r', e, q, t⟩ := r
      cases e
      cases ds with
      | nil => cases t
      | cons d2 ds =>
        obtain ⟨v2, r2, e2, q2, t2⟩ := t
        cases e2
        exact ⟨d2 :: d :: ds, .swap _ _ _, _, _, rfl, q2, _, _, rfl, q, t2⟩
  | trans _ _ ih1 ih2 =>
    intro ds r
    obtain ⟨es, p1, t1⟩ := ih2 r
    obtain ⟨fs, p2, t2⟩ := ih1 t1
    exact ⟨fs, p2.trans p1, t2⟩
end

/-! ### == of data -/
def pdF (h : PH) : Nat → D → Option PyData
  | 0, _ => none
  | _ + 1, .non => some .none
  | _ + 1, .bl b => some (.bool b)
  | _ + 1, .int i => some (.int i)
  | _ + 1, .str x => if PyData.strOk x then some (.str x) else none
  | k + 1, .tup ds => (optAll (pdF h k) ds).map .tuple
  | k + 1, .lst _ ds => (optAll (pdF h k) ds).map .list
  | k + 1, .loc n => match h[n]? with
    | some (.lst ds) => (optAll (pdF h k) ds).map .list
    | _ => none
  | _ + 1, _ => none
def PdOk (k : Nat) (p : PyData) : Prop := p.canLay0 = true ∧ p.depth ≤ k
theorem pd_all {k : Nat} : ∀ {ps : List PyData}, (∀ p ∈ ps, PdOk k p) → PyData.canLayAll0 ps = true ∧ PyData.depthAll ps ≤ k
  | [], _ => by simp [PyData.canLayAll0, PyData.depthAll]
  | p :: ps, h => by
    obtain ⟨h1, h2⟩ := h p List.mem_cons_self
    obtain ⟨h3, h4⟩ := pd_all fun q hq => h q (List.mem_cons_of_mem _ hq)
    simp only [PyData.canLayAll0, PyData.depthAll, h1, h3, Bool.and_self, true_and]
    omega
section
variable {K : PySem.W.Frag} {mg : Str → Option Value} {E : XK} {S S' : Sx} {H H' : Hp} {h h' : PH} {d : D} {v : V} {ds : List D} {vs : List V} {Q : VK}
theorem pds_ok {k : Nat} (ih : ∀ d p v, pdF h k d = some p → Rep K mg S H d v → Dp K H v p ∧ PdOk k p) : ∀ {ds : List D} {ps : List PyData} {vs : List V}, optAll (pdF h k) ds = some ps → Reps K mg S H ds vs → DpAll K H vs ps ∧ ∀ p ∈ ps, PdOk k p
  | [], ps, vs, e, r => by
    cases e
    have r : vs = [] := r
    subst r
    exact ⟨.nil, fun p hp => by cases hp⟩
  | d :: ds, ps, vs, e, r => by
    obtain ⟨b, cs, rfl, e1, e2⟩ := optAll_cons e
    obtain ⟨v, r', rfl, q, t⟩ := r
    obtain ⟨h1, h2⟩ := ih d b v e1 q
    obtain ⟨h3, h4⟩ := pds_ok ih e2 t
    refine ⟨.cons h1 h3, fun p hp => ?_⟩
    rcases List.mem_cons.mp hp with rfl | hp
    · exact h2
    · exact h4 p hp
theorem pd_ok (sim : Sim K mg S H h) : ∀ (k : Nat) (d : D) (p : PyData) (v : V), pdF h k d = some p → Rep K mg S H d v → Dp K H v p ∧ PdOk k p
  | 0, d, p, v, e, _ => by cases e
  | k + 1, .non, p, v, e, r => by cases e; cases r; exact ⟨.non, rfl, by simp [PyData.depth]⟩
  | k + 1, .bl b, p, v, e, r => by cases e; cases r; exact ⟨.bl b, rfl, by simp [PyData.depth]⟩
  | k + 1, .int b, p, v, e, r => by cases e; cases r; exact ⟨.int b, rfl, by simp [PyData.depth]⟩
  | k + 1, .str x, p, v, e, r => by
    simp only [pdF] at e
    split at e
    · rename_i hs
      cases e
      cases r
      exact ⟨.str x, hs, by simp [PyData.depth]⟩
    · cases e
  | k + 1, .tup ds, p, v, e, r => by
    simp only [pdF] at e
    cases e2 : optAll (pdF h k) ds with
    | none => rw [e2] at e; cases e
    | some ps =>
      rw [e2] at e
      cases e
      obtain ⟨a, vs, rfl, t, q⟩ := r
      obtain ⟨h1, h2⟩ := pds_ok (fun d p v e r => pd_ok sim k d p v e r) e2 q
      obtain ⟨h3, h4⟩ := pd_all h2
      exact ⟨.tup t.sq h1, by simpa [PyData.canLay0] using h3, by simp only [PyData.depth]; omega⟩
  | k + 1, .lst f ds, p, v, e, r => by
    simp only [pdF] at e
    cases e2 : optAll (pdF h k) ds with
    | none => rw [e2] at e; cases e
    | some ps =>
      rw [e2] at e
      cases e
      obtain ⟨a, vs, rfl, t, q⟩ := getL_ok (ds := ds) sim r rfl
      obtain ⟨h1, h2⟩ := pds_ok (fun d p v e r => pd_ok sim k d p v e r) e2 q
      obtain ⟨h3, h4⟩ := pd_all h2
      exact ⟨.lst t h1, by simpa [PyData.canLay0] using h3, by simp only [PyData.depth]; omega⟩
  | k + 1, .loc n, p, v, e, r => by
    simp only [pdF] at e
    split at e
    · rename_i ds eh
      cases e2 : optAll (pdF h k) ds with
      | none => rw [e2] at e; cases e
      | some ps =>
        rw [e2] at e
        cases e
        obtain ⟨a, vs, rfl, t, q⟩ := getL_ok (ds := ds) sim r (by simp only [getL, eh])
        obtain ⟨h1, h2⟩ := pds_ok (fun d p v e r => pd_ok sim k d p v e r) e2 q
        obtain ⟨h3, h4⟩ := pd_all h2
        exact ⟨.lst t h1, by simpa [PyData.canLay0] using h3, by simp only [PyData.depth]; omega⟩
    · cases e
  | k + 1, .gl _, p, v, e, r => by cases e
  | k + 1, .ty _, p, v, e, r => by cases e
  | k + 1, .exn _, p, v, e, r => by cases e
  | k + 1, .oth _, p, v, e, r => by cases e
theorem pd_shaped {p : PyData} (h : PdOk 64 p) : SeqAt.shaped p = true := by
  unfold SeqAt.shaped
  rw [h.1, decide_eq_true h.2]
  rfl
end
def oEq (a : D) (b : D) (h : PH) : Out D := match pdF h 64 a, pdF h 64 b with
  | some p, some q => .ok (.bl (PyData.eqv p q)) h
  | _, _ => .stuck
def oNe (a : D) (b : D) (h : PH) : Out D := match pdF h 64 a, pdF h 64 b with
  | some p, some q => .ok (.bl (!PyData.eqv p q)) h
  | _, _ => .stuck
section
variable {K : PySem.W.Frag} {mg : Str → Option Value} {E : XK} {X : Cx}
theorem os_eq : OpS K mg E (rEqD K) oEq := fun S H h x y dx dy Q sim rx ry q => by
  unfold oEq at q
  split at q
  · rename_i p p' e1 e2
    obtain ⟨h1, h2⟩ := pd_ok sim 64 _ _ _ e1 rx
    obtain ⟨h3, h4⟩ := pd_ok sim 64 _ _ _ e2 ry
    exact ⟨p, p', h1, h3, pd_shaped h2, pd_shaped h4, Post.get (b := V.bl _) q sim rfl⟩
  · exact q.elim
theorem os_ne : OpS K mg E (rNeD K) oNe := fun S H h x y dx dy Q sim rx ry q => by
  unfold oNe at q
  split at q
  · rename_i p p' e1 e2
    obtain ⟨h1, h2⟩ := pd_ok sim 64 _ _ _ e1 rx
    obtain ⟨h3, h4⟩ := pd_ok sim 64 _ _ _ e2 ry
    exact ⟨p, p', h1, h3, pd_shaped h2, pd_shaped h4, Post.get (b := V.bl _) q sim rfl⟩
  · exact q.elim
/-! ### in, not in -/
def oIn (neg : Bool) (a : D) (b : D) (h : PH) : Out D := match fv a, (getSeq h b).bind (optAll fv) with
  | some w, some ws => .ok (.bl (if neg then !inV w ws else inV w ws)) h
  | _, _ => .stuck
theorem os_in {neg : Bool} : OpS K mg E (rIn K neg) (oIn neg) := fun S H h x y dx dy Q sim rx ry q => by
  unfold oIn at q
  split at q
  · rename_i w ws e1 e2
    obtain ⟨ds, e3, e4⟩ := Option.bind_eq_some_iff.mp e2
    obtain ⟨a, vs, rfl, t, rs⟩ := getSeq_ok sim ry e3
    have e5 := fv_ok rx e1
    obtain ⟨e6, e7⟩ := fvs_ok rs e4
    subst e5 e6
    exact ⟨a, vs, rfl, t, fv_flat e1, e7, Post.get (b := V.bl _) q sim rfl⟩
  · exact q.elim
/-! ### numbers -/
@[simp] def oSub : D → D → PH → Out D
  | .int i, .int j, h => .ok (.int (i - j)) h
  | _, _, _ => .stuck
def mulOk (i j : Int) : Bool := (decide (-(2 ^ 64) < i) && decide (i < 2 ^ 64)) || (decide (-(2 ^ 64) < j) && decide (j < 2 ^ 64)) || decide (i.natAbs.log2 + j.natAbs.log2 < 1000000)
def oMul (fz : Bool) (a : D) (b : D) (h : PH) : Out D := match a, b with
  | .int i, .int j => if mulOk i j then .ok (.int (i * j)) h else .stuck
  | .tup xs, .int k => if k = 1 then .ok (.tup xs) h else if !xs.isEmpty && decide (2 ≤ k) && decide (k ≤ 1000) && decide (xs.length ≤ 1000) then .ok (.tup (List.replicate k.toNat xs).flatten) h else .stuck
  | a, .int k => match getLx h a with
    | some xs => if decide (-(2 ^ 63) ≤ k) && decide (k < 2 ^ 63) && sizeOk (xs.length * k.toNat) then mkL fz (List.replicate k.toNat xs).flatten h else .stuck
    | none => .stuck
  | _, _ => .stuck
@[simp] def oMod : D → D → PH → Out D
  | .int i, .int j, h => if 0 < j then .ok (.int (i % j)) h else .stuck
  | _, _, _ => .stuck
@[simp] def oFdiv : D → D → PH → Out D
  | .int i, .int j, h => if 0 < j ∧ j.natAbs.log2 < 9000 then .ok (.int (i / j)) h else .stuck
  | _, _, _ => .stuck
@[simp] def oPow : D → D → PH → Out D
  | .int i, .int j, h => if 0 ≤ j ∧ j ≤ 1000000 ∧ i.natAbs < 2 ^ 64 then .ok (.int (i ^ j.toNat)) h else .stuck
  | _, _, _ => .stuck
@[simp] def oShl : D → D → PH → Out D
  | .int i, .int j, h => if 0 ≤ j ∧ j ≤ 1000000 ∧ i.natAbs < 2 ^ 64 then .ok (.int (i * 2 ^ j.toNat)) h else .stuck
  | _, _, _ => .stuck
@[simp] def oShr : D → D → PH → Out D
  | .int i, .int j, h => if 0 ≤ j then .ok (.int (i / 2 ^ j.toNat)) h else .stuck
  | _, _, _ => .stuck
@[simp] def oBand : D → D → PH → Out D
  | .int i, .int j, h => .ok (.int (Builtin.bitAnd i j)) h
  | _, _, _ => .stuck
def oNeg : D → PH → Out D
  | .int i, h => .ok (.int (-i)) h
  | _, _ => .stuck
@[simp] def oLe : D → D → PH → Out D
  | .int i, .int j, h => .ok (.bl (decide (i ≤ j))) h
  | _, _, _ => .stuck
@[simp] def oGt : D → D → PH → Out D
  | .int i, .int j, h => .ok (.bl (decide (j < i))) h
  | _, _, _ => .stuck
@[simp] def oGe : D → D → PH → Out D
  | .int i, .int j, h => .ok (.bl (decide (j ≤ i))) h
  | _, _, _ => .stuck
def oLt : D → D → PH → Out D
  | .int i, .int j, h => .ok (.bl (decide (i < j))) h
  | .tup xs, .tup ys, h => match optAll asInt xs, optAll asInt ys with
    | some ns, some ms => .ok (.bl (HT.lexLt ns ms)) h
    | _, _ => .stuck
  | _, _, _ => .stuck
theorem os_I0 {g : Int → Int → V} {f : D → D → PH → Out D} {k : Int → Int → D} (hk : ∀ S H i j, Rep K mg S H (k i j) (g i j)) (hf : ∀ a b h, (∃ i j, a = .int i ∧ b = .int j ∧ f a b h = .ok (k i j) h) ∨ f a b h = .stuck) : OpS K mg E (rI0 g) f := fun S H h x y dx dy Q sim rx ry q => by
  rcases hf dx dy h with ⟨i, j, rfl, rfl, e⟩ | e
  · rw [e] at q
    exact ⟨i, j, rx, ry, Post.get q sim (hk S H i j)⟩
  · rw [e] at q
    exact q.elim
theorem os_I {C : Int → Int → Prop} {g : Int → Int → V} {f : D → D → PH → Out D} {k : Int → Int → D} (hk : ∀ S H i j, Rep K mg S H (k i j) (g i j)) (hf : ∀ a b h, (∃ i j, a = .int i ∧ b = .int j ∧ C i j ∧ f a b h = .ok (k i j) h) ∨ f a b h = .stuck) : OpS K mg E (rI C g) f := fun S H h x y dx dy Q sim rx ry q => by
  rcases hf dx dy h with ⟨i, j, rfl, rfl, c, e⟩ | e
  · rw [e] at q
    exact ⟨i, j, rx, ry, c, Post.get q sim (hk S H i j)⟩
  · rw [e] at q
    exact q.elim
theorem os_sub : OpS K mg E (rI0 fun i j => .int (i - j)) oSub := os_I0 (k := fun i j => .int (i - j)) (fun _ _ _ _ => rfl) fun a b h => by
  cases a <;> cases b <;> first | exact .inl ⟨_, _, rfl, rfl, rfl⟩ | exact .inr rfl
theorem os_le : OpS K mg E (rI0 fun i j => .bl (decide (i ≤ j))) oLe := os_I0 (k := fun i j => .bl (decide (i ≤ j))) (fun _ _ _ _ => rfl) fun a b h => by
  cases a <;> cases b <;> first | exact .inl ⟨_, _, rfl, rfl, rfl⟩ | exact .inr rfl
theorem os_gt : OpS K mg E (rI0 fun i j => .bl (decide (j < i))) oGt := os_I0 (k := fun i j => .bl (decide (j < i))) (fun _ _ _ _ => rfl) fun a b h => by
  cases a <;> cases b <;> first | exact .inl ⟨_, _, rfl, rfl, rfl⟩ | exact .inr rfl
theorem os_ge : OpS K mg E (rI0 fun i j => .bl (decide (j ≤ i))) oGe := os_I0 (k := fun i j => .bl (decide (j ≤ i))) (fun _ _ _ _ => rfl) fun a b h => by
  cases a <;> cases b <;> first | exact .inl ⟨_, _, rfl, rfl, rfl⟩ | exact .inr rfl
theorem os_band : OpS K mg E (rI0 fun i j => .int (Builtin.bitAnd i j)) oBand := os_I0 (k := fun i j => .int (Builtin.bitAnd i j)) (fun _ _ _ _ => rfl) fun a b h => by
  cases a <;> cases b <;> first | exact .inl ⟨_, _, rfl, rfl, rfl⟩ | exact .inr rfl
theorem os_mod : OpS K mg E (rI (fun _ j => 0 < j) fun i j => .int (i % j)) oMod := os_I (k := fun i j => .int (i % j)) (fun _ _ _ _ => rfl) fun a b h => by
  cases a <;> cases b <;> first | exact .inr rfl | skip
  rename_i i j
  by_cases z : 0 < j
  · exact .inl ⟨_, _, rfl, rfl, z, by simp only [oMod, if_pos z]⟩
  · exact .inr (by simp only [oMod, if_neg z])
theorem os_fdiv : OpS K mg E (rI CDivW fun i j => .int (i / j)) oFdiv := os_I (k := fun i j => .int (i / j)) (fun _ _ _ _ => rfl) fun a b h => by
  cases a <;> cases b <;> first | exact .inr rfl | skip
  rename_i i j
  by_cases z : 0 < j ∧ j.natAbs.log2 < 9000
  · exact .inl ⟨_, _, rfl, rfl, z, by simp only [oFdiv, if_pos z]⟩
  · exact .inr (by simp only [oFdiv, if_neg z])
theorem os_pow : OpS K mg E (rI CPow fun i j => .int (i ^ j.toNat)) oPow := os_I (k := fun i j => .int (i ^ j.toNat)) (fun _ _ _ _ => rfl) fun a b h => by
  cases a <;> cases b <;> first | exact .inr rfl | skip
  rename_i i j
  by_cases z : 0 ≤ j ∧ j ≤ 1000000 ∧ i.natAbs < 2 ^ 64
  · exact .inl ⟨_, _, rfl, rfl, z, by simp only [oPow, if_pos z]⟩
  · exact .inr (by simp only [oPow, if_neg z])
theorem os_shl : OpS K mg E (rI CPow fun i j => .int (i * 2 ^ j.toNat)) oShl := os_I (k := fun i j => .int (i * 2 ^ j.toNat)) (fun _ _ _ _ => rfl) fun a b h => by
  cases a <;> cases b <;> first | exact .inr rfl | skip
  rename_i i j
  by_cases z : 0 ≤ j ∧ j ≤ 1000000 ∧ i.natAbs < 2 ^ 64
  · exact .inl ⟨_, _, rfl, rfl, z, by simp only [oShl, if_pos z]⟩
  · exact .inr (by simp only [oShl, if_neg z])
theorem os_shr : OpS K mg E (rI (fun _ j => 0 ≤ j) fun i j => .int (i / 2 ^ j.toNat)) oShr := os_I (k := fun i j => .int (i / 2 ^ j.toNat)) (fun _ _ _ _ => rfl) fun a b h => by
  cases a <;> cases b <;> first | exact .inr rfl | skip
  rename_i i j
  by_cases z : 0 ≤ j
  · exact .inl ⟨_, _, rfl, rfl, z, by simp only [oShr, if_pos z]⟩
  · exact .inr (by simp only [oShr, if_neg z])
theorem us_neg : UnS K mg E (rU fun i => .int (-i)) oNeg := fun S H h x dx Q sim rx q => by
  cases dx with
  | int i => exact ⟨i, rx, Post.get (b := V.int (-i)) q sim rfl⟩
  | _ => exact q.elim
def rLtA (K : PySem.W.Frag) : R2 := fun x y H Q => (rI0 (fun i j => .bl (decide (i < j)))) x y H Q ∨ rLtT K x y H Q
theorem op_ltA (hu : X.A.units < cLine) : OpR X (compareOp .Lt) (rLtA X.K) := OpR.or op_lt (op_ltT hu)
theorem os_lt : OpS K mg E (rLtA K) oLt := fun S H h x y dx dy Q sim rx ry q => by
  cases dx with
  | int i =>
    cases dy with
    | int j => exact .inl ⟨i, j, rx, ry, Post.get (b := V.bl _) q sim rfl⟩
    | _ => exact q.elim
  | tup xs =>
    cases dy with
    | tup ys =>
      simp only [oLt] at q
      split at q
      · rename_i ns ms e1 e2
        obtain ⟨a, vs, rfl, t, r⟩ := rx
        obtain ⟨b, ws, rfl, t', r'⟩ := ry
        have e3 := ints_ok r e1
        have e4 := ints_ok r' e2
        subst e3 e4
        exact .inr ⟨a, b, ns, ms, rfl, rfl, t.sq, t'.sq, Post.get (b := V.bl _) q sim rfl⟩
      · exact q.elim
    | _ => exact q.elim
  | _ => exact q.elim
theorem tuple_mul1 (l : Addr) (items : Array Value) (n : Nat) (dd : Option Addr) (sl : Array (Option Value)) (u : Tok) :
    Meets (Builtin.«tuple.__mul__» ⟨[.ref l, .int 1 u], []⟩) (fun _ R s => s.heap.get? l = some { cls := .type "tuple", dict := dd, data := .seq items n, slots := sl } ∧
      R (.ok (.ret (Value.ref l))) s) :=
  .of_wp fun prog w A R s h => by
    obtain ⟨hp, g, d, tk, os⟩ := s
    obtain ⟨hl, h⟩ := h
    have f1 := AutoSeq1.idx_int
    wp_walk using wpAny_loadPart' hl
    exact ⟨_, rfl, h⟩
def rRepT1 (K : PySem.W.Frag) : R2 := fun x y H Q => ∃ l xs, x = .ref l ∧ y = .int 1 ∧ SqT K H l xs ∧ Q (.ref l) H
theorem op_repT1 {X : Cx} : OpR X (binaryOp .Mult) (rRepT1 X.K) := by
  intro pins s σ H x y v u Q I rx ry h
  obtain ⟨l, xs, rfl, rfl, hT, q⟩ := h
  cases rx
  obtain ⟨t, rfl⟩ := ry
  obtain ⟨its, r, ⟨⟨cls, dd, data, sl⟩, ho, hc, n, hd⟩, hs⟩ := I.tuple hT
  simp only at hc hd
  subst hc hd
  refine wpAny_binaryOp_repeat_ref (T := "tuple") (U := "int") (by decide) ⟨_, ho, rfl⟩ (fun s' => typeIs_int s' 1 t) noFill_tuple_mul F.fills_int_mul F.slot_int_rmul repeat_tuple F.slot_int_index.lookup
    (call_meets F.slot_int_rmul (typeIs_int s 1 t) F.entry_int_rmul (F.args_int_rmul_2 _ _) (int_rmul_tuple 1 t l its.toArray n dd sl)
      ⟨ho, rfl, ⟨_, ho, rfl⟩, call_meets F.slot_tuple_mul ⟨_, ho, rfl⟩ F.entry_tuple_mul (F.args_tuple_mul_2 _ _) (tuple_mul1 l its.toArray n dd sl t) ⟨ho, ?_⟩⟩)
  exact ⟨.ref l, _, I, rfl, q⟩
def rMulA (K : PySem.W.Frag) : R2 := fun x y H Q => ((rI CMul (fun i j => .int (i * j)) x y H Q ∨ rI CMulW (fun i j => .int (i * j)) x y H Q) ∨ rRep x y H Q) ∨ (rRepZ K x y H Q ∨ rRepT1 K x y H Q)
theorem op_mulA : OpR X (binaryOp .Mult) (rMulA X.K) := OpR.or (OpR.or (OpR.or op_mul op_mulW) op_rep) (OpR.or op_repTZ op_repT1)
theorem mul_list {fz : Bool} {S : Sx} {H : Hp} {h : PH} {x : V} {dx : D} {k : Int} {Q : VK} (sim : Sim K mg S H h) (rx : Rep K mg S H dx x)
    (q : Post K mg E (Rep K mg) S H (match getLx h dx with
    | some xs => if decide (-(2 ^ 63) ≤ k) && decide (k < 2 ^ 63) && sizeOk (xs.length * k.toNat) then mkL fz (List.replicate k.toNat xs).flatten h else .stuck
    | none => .stuck) Q) : rRep x (.int k) H Q := by
  split at q
  · rename_i xs e
    split at q
    · rename_i hz
      obtain ⟨a, vs, rfl, t, r⟩ := getLx_ok sim rx e
      simp only [Bool.and_eq_true, decide_eq_true_eq] at hz
      exact ⟨a, k, vs, rfl, rfl, t, hz.1.1, hz.1.2, by rw [r.length]; exact sizeOk_le hz.2, fun p np => mkL_ok sim (r.replicate _) q np⟩
    · exact q.elim
  · exact q.elim
theorem os_mul {fz : Bool} : OpS K mg E (rMulA K) (oMul fz) := fun S H h x y dx dy Q sim rx ry q => by
  cases dy with
  | int k =>
    have ry : y = .int k := ry
    subst ry
    cases dx with
    | int i =>
      simp only [oMul] at q
      split at q
      · rename_i hm
        simp only [mulOk, Bool.or_eq_true, Bool.and_eq_true, decide_eq_true_eq] at hm
        refine .inl (.inl ?_)
        rcases hm with hm | hm
        · exact .inl ⟨i, k, rx, rfl, hm, Post.get (b := V.int _) q sim rfl⟩
        · exact .inr ⟨i, k, rx, rfl, hm, Post.get (b := V.int _) q sim rfl⟩
      · exact q.elim
    | tup xs =>
      simp only [oMul] at q
      split at q
      · rename_i hk
        subst hk
        have rx0 := rx
        obtain ⟨a, vs, rfl, t, r⟩ := rx
        exact .inr (.inr ⟨a, vs, rfl, rfl, t.sq, Post.get q sim rx0⟩)
      split at q
      · rename_i hm
        obtain ⟨a, vs, rfl, t, r⟩ := rx
        simp only [Bool.and_eq_true, decide_eq_true_eq] at hm
        have hne : vs ≠ [] := fun z => by
          have z2 := r.nil_iff.mp z
          subst z2
          simp at hm
        exact .inr (.inl ⟨a, k, vs, rfl, rfl, t.sq, hne, hm.1.1.2, hm.1.2, by rw [r.length]; exact hm.2, fun p H' n => mkT_ok sim (r.replicate _) q n⟩)
      · exact q.elim
    | lst f xs => exact .inl (.inr (mul_list sim rx q))
    | loc n => exact .inl (.inr (mul_list sim rx q))
    | non => exact (q : False).elim
    | bl b => exact (q : False).elim
    | str b => exact (q : False).elim
    | gl b => exact (q : False).elim
    | ty b => exact (q : False).elim
    | exn b => exact (q : False).elim
    | oth b => exact (q : False).elim
  | _ => cases dx <;> exact q.elim
end
end R
namespace R
open PySem PySem.Spec PyProof.Rows L2

mutual
def D.beq : D → D → Bool
  | .non, .non => true
  | .bl a, .bl b => decide (a = b)
  | .int a, .int b => decide (a = b)
  | .str a, .str b => decide (a = b)
  | .tup xs, .tup ys => D.beqs xs ys
  | .lst f xs, .lst g ys => decide (f = g) && D.beqs xs ys
  | .loc a, .loc b => decide (a = b)
  | .gl a, .gl b => decide (a = b)
  | .ty a, .ty b => decide (a = b)
  | .exn a, .exn b => decide (a = b)
  | .oth a, .oth b => decide (a = b)
  | _, _ => false
def D.beqs : List D → List D → Bool
  | [], [] => true
  | x :: xs, y :: ys => D.beq x y && D.beqs xs ys
  | _, _ => false
end
mutual
theorem D.beq_refl : ∀ d : D, D.beq d d = true
  | .non => rfl
  | .bl _ => by simp [D.beq]
  | .int _ => by simp [D.beq]
  | .str _ => by simp [D.beq]
  | .tup xs => by simp [D.beq, D.beqs_refl xs]
  | .lst f xs => by simp [D.beq, D.beqs_refl xs]
  | .loc _ => by simp [D.beq]
  | .gl _ => by simp [D.beq]
  | .ty _ => by simp [D.beq]
  | .exn _ => by simp [D.beq]
  | .oth _ => by simp [D.beq]
theorem D.beqs_refl : ∀ ds : List D, D.beqs ds ds = true
  | [] => rfl
  | d :: ds => by simp [D.beqs, D.beq_refl d, D.beqs_refl ds]
end
mutual
theorem D.beq_eq : ∀ (a b : D), D.beq a b = true → a = b
  | .non, b, e => by cases b <;> simp_all [D.beq]
  | .bl _, b, e => by cases b <;> simp_all [D.beq]
  | .int _, b, e => by cases b <;> simp_all [D.beq]
  | .str _, b, e => by cases b <;> simp_all [D.beq]
  | .tup xs, b, e => by
    cases b with
    | tup ys => rw [D.beqs_eq xs ys (by simpa [D.beq] using e)]
    | _ => simp [D.beq] at e
  | .lst f xs, b, e => by
    cases b with
    | lst g ys =>
      simp only [D.beq, Bool.and_eq_true, decide_eq_true_eq] at e
      rw [D.beqs_eq xs ys e.2, e.1]
    | _ => simp [D.beq] at e
  | .loc _, b, e => by cases b <;> simp_all [D.beq]
  | .gl _, b, e => by cases b <;> simp_all [D.beq]
  | .ty _, b, e => by cases b <;> simp_all [D.beq]
  | .exn _, b, e => by cases b <;> simp_all [D.beq]
  | .oth _, b, e => by cases b <;> simp_all [D.beq]
theorem D.beqs_eq : ∀ (a b : List D), D.beqs a b = true → a = b
  | [], b, e => by cases b <;> simp_all [D.beqs]
  | x :: xs, b, e => by
    cases b with
    | nil => simp [D.beqs] at e
    | cons y ys =>
      simp only [D.beqs, Bool.and_eq_true] at e
      rw [D.beq_eq x y e.1, D.beqs_eq xs ys e.2]
end

/-! ### + -/
def oAdd (fz : Bool) (a : D) (b : D) (h : PH) : Out D := match a, b with
  | .int i, .int j => .ok (.int (i + j)) h
  | .str x, .str y => if sizeOk (x.length + y.length) then .ok (.str (x ++ y)) h else .stuck
  | .tup xs, .tup ys => if sizeOk (xs.length + ys.length) then .ok (.tup (xs ++ ys)) h else .stuck
  | a, b => match getLx h a, getLx h b with
    | some xs, some ys => if sizeOk (xs.length + ys.length) then mkL fz (xs ++ ys) h else .stuck
    | _, _ => .stuck
def oIx (a : D) (b : D) (h : PH) : Out D := match b with
  | .int i => match a with
    | .str z => if sizeOk z.length then (match atI z.cps.toList i with
      | some c => .ok (.str ⟨#[c]⟩) h
      | none => .stuck) else .stuck
    | a => match getSeq h a with
      | some ds => (match atI ds i with
        | some d => .ok d h
        | none => .stuck)
      | none => .stuck
  | _ => .stuck
@[simp] def cutG {α : Type} (xs : List α) (lo hi : Option Int) : List α := (xs.drop (HT.sIx xs.length 0 lo)).take (HT.sIx xs.length xs.length hi - HT.sIx xs.length 0 lo)
def oSl (fz : Bool) (a : D) (lo : Option Int) (hi : Option Int) (h : PH) : Out D := match a with
  | .tup ds => .ok (.tup (cutG ds lo hi)) h
  | .str z => if sizeOk z.length then .ok (.str (cutS z lo hi)) h else .stuck
  | a => match getL h a with
    | some ds => mkL fz (cutG ds lo hi) h
    | none => .stuck
def eSl (fz : Bool) (a : EM) (lo hi : Rho → PH → Out (Option Int)) (ρ : Rho) (h : PH) : Out D := (a ρ h).bind fun x h1 => (lo ρ h1).bind fun l h2 => (hi ρ h2).bind fun u h3 => oSl fz x l u h3
section
variable {K : PySem.W.Frag} {mg : Str → Option Value} {E : XK} {X : Cx} {S S' : Sx} {H H' : Hp} {h h' : PH} {d : D} {v : V} {ds es : List D} {vs ws : List V} {Q : VK}
def rAddA (K : PySem.W.Frag) : R2 := fun x y H Q => ((rI0 (fun i j => .int (i + j)) x y H Q ∨ (∃ i j, x = .str i ∧ y = .str j ∧ i.length + j.length ≤ sizeLine ∧ Q (.str (i ++ j)) H)) ∨ rCat x y H Q) ∨ rCatZ K x y H Q
theorem op_addA : OpR X (binaryOp .Add) (rAddA X.K) := OpR.or (OpR.or (OpR.or op_add op_add_str) op_cat) op_catZ
theorem add_list {fz : Bool} {x y : V} {dx dy : D} (sim : Sim K mg S H h) (rx : Rep K mg S H dx x) (ry : Rep K mg S H dy y)
    (q : Post K mg E (Rep K mg) S H (match getLx h dx, getLx h dy with
    | some xs, some ys => if sizeOk (xs.length + ys.length) then mkL fz (xs ++ ys) h else .stuck
    | _, _ => .stuck) Q) : rCat x y H Q := by
  split at q
  · rename_i xs ys e1 e2
    split at q
    · rename_i hz
      obtain ⟨a, vs, rfl, t, r⟩ := getLx_ok sim rx e1
      obtain ⟨b, ws, rfl, t', r'⟩ := getLx_ok sim ry e2
      exact ⟨a, b, vs, ws, rfl, rfl, t, t', by rw [r.length, r'.length]; exact sizeOk_le hz, fun p np => mkL_ok sim (r.append r') q np⟩
    · exact q.elim
  · exact q.elim
theorem os_add {fz : Bool} : OpS K mg E (rAddA K) (oAdd fz) := fun S H h x y dx dy Q sim rx ry q => by
  unfold oAdd at q
  split at q
  · exact .inl (.inl (.inl ⟨_, _, rx, ry, Post.get (b := V.int _) q sim rfl⟩))
  · split at q
    · rename_i hz
      exact .inl (.inl (.inr ⟨_, _, rx, ry, sizeOk_le hz, Post.get (b := V.str _) q sim rfl⟩))
    · exact q.elim
  · split at q
    · rename_i xs ys hz
      obtain ⟨a, vs, rfl, t, r⟩ := rx
      obtain ⟨b, ws, rfl, t', r'⟩ := ry
      refine .inr ⟨a, b, vs, ws, rfl, rfl, t.sq, t'.sq, by rw [r.length, r'.length]; exact sizeOk_le hz, fun e => ?_, fun _ e => ?_, fun _ _ p H' n => mkT_ok sim (r.append r') q n⟩
      · subst e
        have e2 : xs = [] := r.nil_iff.mp rfl
        subst e2
        exact Post.get (b := V.ref b) q sim ⟨b, ws, rfl, t', r'⟩
      · subst e
        have e2 : ys = [] := r'.nil_iff.mp rfl
        subst e2
        rw [List.append_nil] at q
        exact Post.get (b := V.ref a) q sim ⟨a, vs, rfl, t, r⟩
    · exact q.elim
  · exact .inl (.inr (add_list sim rx ry q))
theorem os_ix : OpS K mg E (rIx K) oIx := fun S H h x y dx dy Q sim rx ry q => by
  unfold oIx at q
  split at q
  · rename_i i
    have ry : y = .int i := ry
    subst ry
    split at q
    · rename_i z
      split at q
      · rename_i hz
        split at q
        · rename_i c e
          exact .inr (.inr ⟨z, i, c, rx, rfl, sizeOk_le hz, e, Post.get (b := V.str _) q sim rfl⟩)
        · exact q.elim
      · exact q.elim
    · split at q
      · rename_i ds e1
        split at q
        · rename_i d e2
          obtain ⟨a, vs, rfl, t, r⟩ := getSeq_ok sim rx e1
          obtain ⟨v, e3, rv⟩ := r.atI e2
          rcases t with t | t
          · exact .inl ⟨a, vs, i, v, rfl, rfl, t, e3, Post.get q sim rv⟩
          · exact .inr (.inl ⟨a, vs, i, v, rfl, rfl, t, e3, Post.get q sim rv⟩)
        · exact q.elim
      · exact q.elim
  · exact q.elim
theorem re_ix {a b : Expr} {ma mb : EM} {pos : Pos} (ha : RE X E a ma) (hb : RE X E b mb) (hs : PlainIx b := by exact fun _ _ => rfl) : RE X E (.Subscript a b pos) (eBin oIx ma mb) :=
  PE.weak (pe_ix ix_seq ha hb hs) fun σ H Q ⟨S, ρ, h, sim, env, q⟩ =>
    tG_seq sim env q fun x S1 H1 h1 dx e1 s1 r1 env1 q1 => tG_seq s1 env1 q1 fun y S2 H2 h2 dy e2 s2 r2 env2 q2 => os_ix S2 H2 h2 x y dx dy Q s2 (Rep.mono s1 e2 _ _ r1) r2 q2
theorem Reps.cut (r : Reps K mg S H ds vs) (lo hi : Option Int) : Reps K mg S H (cutG ds lo hi) (cutV vs lo hi) := by
  unfold cutG cutV
  rw [r.length]
  exact (r.drop _).take _
def rSlAll (K : PySem.W.Frag) : V → Option Int → Option Int → Hp → VK → Prop := fun x lo hi H Q => (rSlZ K x lo hi H Q ∨ rSlS x lo hi H Q) ∨ rSlL K x lo hi H Q
theorem sl_all : SlR X (rSlAll X.K) := SlR.or (SlR.or sl_tupZ sl_str) sl_list
theorem os_sl {fz : Bool} {x : V} {lo hi : Option Int} (sim : Sim K mg S H h) (rx : Rep K mg S H d x) (q : Post K mg E (Rep K mg) S H (oSl fz d lo hi h) Q) : rSlAll K x lo hi H Q := by
  unfold oSl at q
  split at q
  · rename_i ds
    obtain ⟨a, vs, rfl, t, r⟩ := rx
    refine .inl (.inl ⟨a, vs, rfl, t.sq, fun e => ?_, fun _ p H' n => mkT_ok sim (r.cut lo hi) q n⟩)
    have e2 : cutG ds lo hi = ds := by
      unfold cutG
      rw [← r.length, e.1, e.2, List.drop_zero, r.length]
      simp
    rw [e2] at q
    exact Post.get (b := V.ref a) q sim ⟨a, vs, rfl, t, r⟩
  · split at q
    · rename_i hz
      exact .inl (.inr ⟨_, rx, sizeOk_le hz, Post.get (b := V.str _) q sim rfl⟩)
    · exact q.elim
  · split at q
    · rename_i ds e
      obtain ⟨a, vs, rfl, t, r⟩ := getL_ok sim rx e
      exact .inr ⟨a, vs, rfl, t, fun p np => mkL_ok sim (r.cut lo hi) q np⟩
    · exact q.elim
theorem re_sl (fz : Bool) {a : Expr} {lo hi : Option Expr} {ma : EM} {ml mu : Rho → PH → Out (Option Int)} {pos p2 : Pos} (ha : RE X E a ma) (hl : RO X E lo ml) (hu : RO X E hi mu) : RE X E (.Subscript a (.Slice lo hi none p2) pos) (eSl fz ma ml mu) :=
  PE.weak (pe_slice sl_all ha hl hu) fun σ H Q ⟨S, ρ, h, sim, env, q⟩ =>
    tG_seq sim env q fun x S1 H1 h1 dx e1 s1 r1 env1 q1 => tG_seq s1 env1 q1 fun l S2 H2 h2 l' e2 s2 r2 env2 q2 => tG_seq s2 env2 q2 fun u S3 H3 h3 u' e3 s3 r3 env3 q3 => by
      have r2 : l' = l := r2
      have r3 : u' = u := r3
      subst r2 r3
      exact os_sl s3 (Rep.mono s2 e3 _ _ (Rep.mono s1 e2 _ _ r1)) q3

/-! ### calls of built-ins -/
@[simp] def tyD (h : PH) : D → Option Ty
  | .non => some .none
  | .bl _ => some .bool
  | .int _ => some .int
  | .str _ => some .str
  | .tup _ => some .tup
  | .lst _ _ => some .lst
  | .loc n => match h[n]? with
    | some (.lst _) => some .lst
    | some (.dct _) => some .dct
    | _ => none
  | .oth _ => some .dct
  | _ => none
@[simp] def isTy (t c : Ty) : Bool := decide (t = c) || (decide (t = .bool) && decide (c = .int))
def fIsi (ds : List D) (h : PH) : Out D := match ds with
  | [d, .ty c] => match tyD h d with
    | some t => .ok (.bl (isTy t c)) h
    | none => .stuck
  | _ => .stuck
theorem kit_all (t c : Ty) : kitB t.name c.name = some (isTy t c) := by
  cases t <;> cases c <;> decide +kernel
theorem tyD_ok {t : Ty} (sim : Sim K mg S H h) (r : Rep K mg S H d v) (e : tyD h d = some t) : TyX K H v (.type t.name) := by
  cases d with
  | non => cases e; cases r; exact .base .non
  | bl b => cases e; cases r; exact .base (.bl b)
  | int i => cases e; cases r; exact .base (.int i)
  | str x => cases e; cases r; exact .base (.str x)
  | tup ds => cases e; obtain ⟨a, vs, rfl, ⟨o, _, z⟩, _⟩ := r; exact .fTuple z
  | lst f ds =>
    cases e
    obtain ⟨a, vs, rfl, z, _⟩ := r
    cases f with
    | own => exact .base (.lst z.1)
    | bor => exact .base (.lst z.1)
    | cst =>
      rcases z with ⟨o, z⟩ | ⟨o, its, n, k, c, _⟩ | z
      · exact .base (.frz z)
      · exact .kList k c
      · exact .base (.lst z.1)
  | loc n =>
    obtain ⟨a, ha, rfl⟩ := r
    simp only [tyD] at e
    split at e
    · rename_i xs eh
      cases e
      obtain ⟨b, hb, hO⟩ := sim.obj n _ eh
      rw [ha] at hb
      cases hb
      obtain ⟨vs, e1, q⟩ := hO
      exact .base (.lst e1)
    · rename_i xs eh
      cases e
      obtain ⟨b, hb, hO⟩ := sim.obj n _ eh
      rw [ha] at hb
      cases hb
      obtain ⟨vs, e1, q⟩ := hO
      exact .base (.dK e1)
    · cases e
  | gl x => cases e
  | ty x => cases e
  | exn x => cases e
  | oth b => cases e; obtain ⟨a, kws, rfl, z, _⟩ := r; exact .base (.dK z)
theorem cs_isi : CallS K mg E (rIsi K) fIsi := fun S H h xs ds Q sim r q => by
  unfold fIsi at q
  split at q
  · rename_i d c
    split at q
    · rename_i t e
      obtain ⟨x, r1, rfl, rx, y, r2, rfl, ry, rn⟩ := r
      have rn : r2 = [] := rn
      have ry : y = .ty c.name := ry
      subst rn ry
      exact ⟨x, _, _, _, isTy t c, rfl, .ty _, tyD_ok sim rx e, kit_ty (kit_all t c), Post.get (b := V.bl _) q sim rfl⟩
    · exact q.elim
  · exact q.elim
def fLen (ds : List D) (h : PH) : Out D := match ds with
  | [.str z] => if sizeOk z.length then .ok (.int z.length) h else .stuck
  | [.loc n] => match h[n]? with
    | some (.lst ds) => .ok (.int ds.length) h
    | some (.dct kvs) => .ok (.int kvs.length) h
    | _ => .stuck
  | [d] => match getSeq h d with
    | some ds => .ok (.int ds.length) h
    | none => .stuck
  | _ => .stuck
theorem Reps.one_inv (r : Reps K mg S H [d] vs) : ∃ x, vs = [x] ∧ Rep K mg S H d x := by
  obtain ⟨x, r1, rfl, rx, rn⟩ := r
  have rn : r1 = [] := rn
  subst rn
  exact ⟨x, rfl, rx⟩
theorem Reps.two_inv {d' : D} (r : Reps K mg S H [d, d'] vs) : ∃ x y, vs = [x, y] ∧ Rep K mg S H d x ∧ Rep K mg S H d' y := by
  obtain ⟨x, r1, rfl, rx, r2⟩ := r
  obtain ⟨y, rfl, ry⟩ := r2.one_inv
  exact ⟨x, y, rfl, rx, ry⟩
def rLenA (K : PySem.W.Frag) : List V → Hp → VK → Prop := fun xs H Q => ((∃ p ys, xs = [.ref p] ∧ (SqL K H p ys ∨ SqT K H p ys) ∧ Q (.int ys.length) H) ∨ (∃ z, xs = [.str z] ∧ z.length ≤ sizeLine ∧ Q (.int z.length) H)) ∨ (∃ a kvs, xs = [V.ref a] ∧ H a = some (.dK kvs) ∧ Q (.int kvs.length) H)
theorem call_lenA : CallR X (.builtin "len") (rLenA X.K) := CallR.or (CallR.or call_len_seq call_len_str) call_lenD
theorem cs_len : CallS K mg E (rLenA K) fLen := fun S H h xs ds Q sim r q => by
  unfold fLen at q
  split at q
  · obtain ⟨x, rfl, rx⟩ := r.one_inv
    split at q
    · rename_i hz
      have rx : x = .str _ := rx
      subst rx
      exact .inl (.inr ⟨_, rfl, sizeOk_le hz, Post.get (b := V.int _) q sim rfl⟩)
    · exact q.elim
  · obtain ⟨x, rfl, rx⟩ := r.one_inv
    obtain ⟨a, ha, rfl⟩ := rx
    split at q
    · rename_i ds eh
      obtain ⟨b, hb, hO⟩ := sim.obj _ _ eh
      rw [ha] at hb
      cases hb
      obtain ⟨vs, e1, rs⟩ := hO
      rw [← rs.length] at q
      exact .inl (.inl ⟨a, vs, rfl, .inl (SqL.of e1), Post.get (b := V.int _) q sim rfl⟩)
    · rename_i kvs eh
      obtain ⟨b, hb, hO⟩ := sim.obj _ _ eh
      rw [ha] at hb
      cases hb
      obtain ⟨kws, e1, e2, rs⟩ := hO
      have e3 := congrArg List.length e2
      simp only [List.length_map] at e3
      rw [← e3] at q
      exact .inr ⟨a, kws, rfl, e1, Post.get (b := V.int _) q sim rfl⟩
    · exact q.elim
  · obtain ⟨x, rfl, rx⟩ := r.one_inv
    split at q
    · rename_i ds e
      obtain ⟨a, vs, rfl, t, rs⟩ := getSeq_ok sim rx e
      rw [← rs.length] at q
      exact .inl (.inl ⟨a, vs, rfl, t, Post.get (b := V.int _) q sim rfl⟩)
    · exact q.elim
  · exact q.elim
def fSum (ds : List D) (h : PH) : Out D := match ds with
  | [d] => match (getSeq h d).bind (optAll asInt) with
    | some ns => .ok (.int ns.sum) h
    | none => .stuck
  | _ => .stuck
theorem sum_over_tup {prog : Program} {w : World} {A : Around} {E : Value → Shared → Prop} {s : Shared} {a : Addr} {xs : Array (Int × Tok)} {Q : Value → Shared → Prop} (hh : A.handled = none) (ht : s.heap.IsTuple a (intItems xs)) (q : ∀ h' k t', (∀ b o, s.heap.get? b = some o → h'.get? b = some o) → Q (.int (preSum (numAt xs) xs.size) t') { s with heap := h', toks := k }) : wpAny (model prog w) A (call (.builtin "sum") [.ref a]) Q E s := by
  obtain ⟨o, ho, hc, n, hd⟩ := id ht
  have lt := Heap.lt_size ho
  have sz : xs.size = (intItems xs).size := by simp [intItems]
  have W0 := (Walks.tuple (prog := prog) (w := w) (A := A.in1) hh s.heap.objs.size a (Nat.ne_of_lt lt) (intItems xs)).toS
  rw [← sz] at W0
  exact call_sum_walkAnyS (wpAny_pyIter_tuple ht ⟨_, _, _, _, _, _, _, numAt xs, rfl, W0, ⟨⟨_, Heap.get?_push_size _ rfl, rfl, rfl⟩, ht.at fun o e => Heap.get?_push_of_some _ e⟩, fun b hb => by
      simp only [List.mem_cons, List.not_mem_nil, or_false] at hb
      rcases hb with e | e
      · rw [e]; exact Heap.lt_size (Heap.get?_push_size _ rfl)
      · rw [e]; exact Heap.lt_size (Heap.get?_push_of_some _ ho), fun i v hP => intItems_at hP, fun s' t' hm => by
      obtain ⟨hp, g', d', k', os'⟩ := s'
      have z1 : g' = s.gens := hm.gens
      have z2 : d' = s.drawn := hm.drawn
      have z3 : os' = s.os := hm.os
      rw [z1, z2, z3]
      exact q hp k' t' fun b o e => hm.heap b o (fun hb => by
        simp only [List.mem_cons, List.not_mem_nil, or_false] at hb
        have := Heap.lt_size e
        rw [hb] at this
        exact Nat.lt_irrefl _ this) (Heap.get?_push_of_some _ e)⟩)
def rSumT (K : PySem.W.Frag) : List V → Hp → VK → Prop := fun vs H Q => ∃ (a : Addr) (ns : List Int), vs = [V.ref a] ∧ SqT K H a (ns.map V.int) ∧ Q (.int ns.sum) H
theorem cr_sumT {X : Cx} (hc : X.calm = true) : CallR X (.builtin "sum") (rSumT X.K) := by
  intro pins s σ H vs us Q I r ⟨a, ns, e0, hs, q⟩
  subst e0
  obtain ⟨its, rv, hl, _⟩ := I.tuple hs
  rw [Vals.ref1 r]
  have hi := rv.ints
  obtain ⟨xs, e⟩ := hi.allInts.items
  have hn : numsOf (intItems xs).toList = ns := by rw [← e]; exact hi.numsOf
  rw [nums_intItems] at hn
  rw [e] at hl
  refine sum_over_tup (I.ok.hd hc) hl fun h' tk t' hk => ?_
  rw [preSum_eq, List.take_of_length_le (by simp), hn]
  exact ⟨.int _, H, I.kept hk, ⟨_, rfl⟩, q⟩
def rSumA (K : PySem.W.Frag) : List V → Hp → VK → Prop := fun vs H Q => rSum K vs H Q ∨ rSumT K vs H Q
theorem cr_sumA {X : Cx} (hc : X.calm = true) : CallR X (.builtin "sum") (rSumA X.K) := by
  intro pins s σ H vs us Q I r q
  rcases q with q | q
  · exact cr_sum hc pins s σ H vs us Q I r q
  · exact cr_sumT hc pins s σ H vs us Q I r q
theorem cs_sum : CallS K mg E (rSumA K) fSum := fun S H h xs ds Q sim r q => by
  unfold fSum at q
  split at q
  · obtain ⟨x, rfl, rx⟩ := r.one_inv
    split at q
    · rename_i ns e
      obtain ⟨ds, e1, e2⟩ := Option.bind_eq_some_iff.mp e
      obtain ⟨a, vs, rfl, t, rs⟩ := getSeq_ok sim rx e1
      have e3 := ints_ok rs e2
      subst e3
      rcases t with t | t
      · exact .inl ⟨a, ns, rfl, t, Post.get (b := V.int _) q sim rfl⟩
      · exact .inr ⟨a, ns, rfl, t, Post.get (b := V.int _) q sim rfl⟩
    · exact q.elim
  · exact q.elim
def fAny (ds : List D) (h : PH) : Out D := match ds with
  | [d] => match (getL h d).bind (optAll asBl) with
    | some ns => .ok (.bl (ns.any id)) h
    | none => .stuck
  | _ => .stuck
def fAll (ds : List D) (h : PH) : Out D := match ds with
  | [d] => match (getL h d).bind (optAll asBl) with
    | some ns => .ok (.bl (ns.all id)) h
    | none => .stuck
  | _ => .stuck
theorem cs_any : CallS K mg E (rAny K) fAny := fun S H h xs ds Q sim r q => by
  unfold fAny at q
  split at q
  · obtain ⟨x, rfl, rx⟩ := r.one_inv
    split at q
    · rename_i ns e
      obtain ⟨ds, e1, e2⟩ := Option.bind_eq_some_iff.mp e
      obtain ⟨a, vs, rfl, t, rs⟩ := getL_ok sim rx e1
      have e3 := bls_ok rs e2
      subst e3
      exact ⟨a, ns, rfl, t, Post.get (b := V.bl _) q sim rfl⟩
    · exact q.elim
  · exact q.elim
theorem cs_all : CallS K mg E (rAll K) fAll := fun S H h xs ds Q sim r q => by
  unfold fAll at q
  split at q
  · obtain ⟨x, rfl, rx⟩ := r.one_inv
    split at q
    · rename_i ns e
      obtain ⟨ds, e1, e2⟩ := Option.bind_eq_some_iff.mp e
      obtain ⟨a, vs, rfl, t, rs⟩ := getL_ok sim rx e1
      have e3 := bls_ok rs e2
      subst e3
      exact ⟨a, ns, rfl, t, Post.get (b := V.bl _) q sim rfl⟩
    · exact q.elim
  · exact q.elim
def fTuple (ds : List D) (h : PH) : Out D := match ds with
  | [.tup xs] => .ok (.tup xs) h
  | [d] => match getL h d with
    | some xs => .ok (.tup xs) h
    | none => .stuck
  | _ => .stuck
def rTupleA (K : PySem.W.Frag) : List V → Hp → VK → Prop := fun xs H Q => ∃ p ys, xs = [.ref p] ∧ ((SqL K H p ys ∧ ∀ l H', NewZ H l ys H' → Q (.ref l) H') ∨ (SqT K H p ys ∧ Q (.ref p) H))
theorem cs_tuple : CallS K mg E (rTupleA K) fTuple := fun S H h xs ds Q sim r q => by
  unfold fTuple at q
  split at q
  · obtain ⟨x, rfl, rx⟩ := r.one_inv
    obtain ⟨a, vs, rfl, t, rs⟩ := rx
    exact ⟨a, vs, rfl, .inr ⟨t.sq, Post.get (b := V.ref a) q sim ⟨a, vs, rfl, t, rs⟩⟩⟩
  · obtain ⟨x, rfl, rx⟩ := r.one_inv
    split at q
    · rename_i ds e
      obtain ⟨a, vs, rfl, t, rs⟩ := getL_ok sim rx e
      exact ⟨a, vs, rfl, .inl ⟨t, fun p H' n => mkT_ok sim rs q n⟩⟩
    · exact q.elim
  · exact q.elim
def fList (fz : Bool) (ds : List D) (h : PH) : Out D := match ds with
  | [d] => match getSeq h d with
    | some xs => mkL fz xs h
    | none => .stuck
  | _ => .stuck
def rListA (K : PySem.W.Frag) : List V → Hp → VK → Prop := fun xs H Q => ∃ p ys, xs = [.ref p] ∧ (SqL K H p ys ∨ SqT K H p ys) ∧ ∀ l, H l = none → Q (.ref l) (upd H l (.lst ys))
theorem cs_list {fz : Bool} : CallS K mg E (rListA K) (fList fz) := fun S H h xs ds Q sim r q => by
  unfold fList at q
  split at q
  · obtain ⟨x, rfl, rx⟩ := r.one_inv
    split at q
    · rename_i ds e
      obtain ⟨a, vs, rfl, t, rs⟩ := getSeq_ok sim rx e
      exact ⟨a, vs, rfl, t, fun p np => mkL_ok sim rs q np⟩
    · exact q.elim
  · exact q.elim
def fInt (ds : List D) (h : PH) : Out D := match ds with
  | [.int i] => .ok (.int i) h
  | [.bl k] => .ok (.int (if k then 1 else 0)) h
  | _ => .stuck
def rIntA : List V → Hp → VK → Prop := fun xs H Q => (∃ i, xs = [.int i] ∧ Q (.int i) H) ∨ ∃ k, xs = [.bl k] ∧ Q (.int (if k then 1 else 0)) H
theorem cs_int : CallS K mg E rIntA fInt := fun S H h xs ds Q sim r q => by
  unfold fInt at q
  split at q
  · obtain ⟨x, rfl, rx⟩ := r.one_inv
    have rx : x = .int _ := rx
    subst rx
    exact .inl ⟨_, rfl, Post.get (b := V.int _) q sim rfl⟩
  · obtain ⟨x, rfl, rx⟩ := r.one_inv
    have rx : x = .bl _ := rx
    subst rx
    exact .inr ⟨_, rfl, Post.get (b := V.int _) q sim rfl⟩
  · exact q.elim
def fStr (ds : List D) (h : PH) : Out D := match ds with
  | [.int i] => if i.natAbs.log2 < 1920 then .ok (.str (toString i)) h else .stuck
  | _ => .stuck
def rStrA : List V → Hp → VK → Prop := fun xs H Q => ∃ i, xs = [.int i] ∧ i.natAbs.log2 < 1920 ∧ Q (.str (toString i)) H
theorem cs_str : CallS K mg E rStrA fStr := fun S H h xs ds Q sim r q => by
  unfold fStr at q
  split at q
  · obtain ⟨x, rfl, rx⟩ := r.one_inv
    have rx : x = .int _ := rx
    subst rx
    split at q
    · rename_i hz
      exact ⟨_, rfl, hz, Post.get (b := V.str _) q sim rfl⟩
    · exact q.elim
  · exact q.elim
def fMax2 (ds : List D) (h : PH) : Out D := match ds with
  | [.int i, .int j] => .ok (.int (if j > i then j else i)) h
  | _ => .stuck
def fMin2 (ds : List D) (h : PH) : Out D := match ds with
  | [.int i, .int j] => .ok (.int (if j < i then j else i)) h
  | _ => .stuck
def rMax2A : List V → Hp → VK → Prop := fun xs H Q => ∃ i j, xs = [.int i, .int j] ∧ Q (.int (if j > i then j else i)) H
def rMin2A : List V → Hp → VK → Prop := fun xs H Q => ∃ i j, xs = [.int i, .int j] ∧ Q (.int (if j < i then j else i)) H
theorem cs_max2 : CallS K mg E rMax2A fMax2 := fun S H h xs ds Q sim r q => by
  unfold fMax2 at q
  split at q
  · obtain ⟨x, y, rfl, rx, ry⟩ := r.two_inv
    have rx : x = .int _ := rx
    have ry : y = .int _ := ry
    subst rx ry
    exact ⟨_, _, rfl, Post.get (b := V.int _) q sim rfl⟩
  · exact q.elim
theorem cs_min2 : CallS K mg E rMin2A fMin2 := fun S H h xs ds Q sim r q => by
  unfold fMin2 at q
  split at q
  · obtain ⟨x, y, rfl, rx, ry⟩ := r.two_inv
    have rx : x = .int _ := rx
    have ry : y = .int _ := ry
    subst rx ry
    exact ⟨_, _, rfl, Post.get (b := V.int _) q sim rfl⟩
  · exact q.elim
/-- sorted of ints -/
def sortI (ns : List Int) : List Int := ns.mergeSort fun a b => decide (a ≤ b)
theorem sortI_eq {ns ms : List Int} (p : ms.Perm ns) (s : ms.Pairwise (· ≤ ·)) : ms = sortI ns := by
  have s2 : (sortI ns).Pairwise fun a b => decide (a ≤ b) = true := List.pairwise_mergeSort (fun a b c h1 h2 => by simp only [decide_eq_true_eq] at *; omega) (fun a b => by simp only [Bool.or_eq_true, decide_eq_true_eq]; omega) ns
  refine List.Perm.eq_of_pairwise (le := fun a b : Int => a ≤ b) (fun a b _ _ h1 h2 => by omega) s (s2.imp fun h => of_decide_eq_true h) (p.trans (List.mergeSort_perm ns _).symm)
def fSortI (fz : Bool) (ds : List D) (h : PH) : Out D := match ds with
  | [d] => match (getL h d).bind (optAll asInt) with
    | some ns => mkL fz ((sortI ns).map .int) h
    | none => .stuck
  | _ => .stuck
theorem cs_sortI {fz : Bool} : CallS K mg E (rSortedI K) (fSortI fz) := fun S H h xs ds Q sim r q => by
  unfold fSortI at q
  split at q
  · obtain ⟨x, rfl, rx⟩ := r.one_inv
    split at q
    · rename_i ns e
      obtain ⟨ds, e1, e2⟩ := Option.bind_eq_some_iff.mp e
      obtain ⟨a, vs, rfl, t, rs⟩ := getL_ok sim rx e1
      have e3 := ints_ok rs e2
      subst e3
      refine ⟨a, ns, rfl, t, fun ms p hp hs np => ?_⟩
      rw [sortI_eq hp hs]
      exact mkL_ok sim (reps_ints _) q np
    · exact q.elim
  · exact q.elim
/-- sorted of pairs of ints -/
@[simp] def asPair : D → Option (Int × Int)
  | .tup [.int i, .int j] => some (i, j)
  | _ => none
def dPair (p : Int × Int) : D := .tup [.int p.1, .int p.2]
def leP (p q : Int × Int) : Bool := !SrtO.lexB q p
def sortP (ns : List (Int × Int)) : List (Int × Int) := ns.mergeSort leP
theorem asPair_eq {p : Int × Int} (e : asPair d = some p) : d = dPair p := by
  unfold asPair at e
  split at e
  · cases e
    rfl
  · cases e
theorem asPairs_eq : ∀ {ds : List D} {ps : List (Int × Int)}, optAll asPair ds = some ps → ds = ps.map dPair
  | [], ps, e => by cases e; rfl
  | d :: ds, ps, e => by
    obtain ⟨b, cs, rfl, e1, e2⟩ := optAll_cons e
    rw [asPair_eq e1, asPairs_eq e2]
    rfl
theorem leP_iff {p q : Int × Int} : leP p q = true ↔ p.1 < q.1 ∨ (p.1 = q.1 ∧ p.2 ≤ q.2) := by
  unfold leP
  rw [Bool.not_eq_true', ← Bool.not_eq_true, SrtO.lexB_iff]
  omega
theorem sortP_sorted (ns : List (Int × Int)) : (sortP ns).Pairwise fun a b => leP a b = true :=
  List.pairwise_mergeSort (fun a b c h1 h2 => by rw [leP_iff] at *; omega) (fun a b => by rw [Bool.or_eq_true, leP_iff, leP_iff]; omega) ns
theorem sortP_perm (ns : List (Int × Int)) : (sortP ns).Perm ns := List.mergeSort_perm ns _
theorem sortP_eq {ns ms : List (Int × Int)} (p : ms.Perm ns) (s : ms.Pairwise fun a b => leP a b = true) : ms = sortP ns :=
  List.Perm.eq_of_pairwise (le := fun a b => leP a b = true) (fun a b _ _ h1 h2 => by
    rw [leP_iff] at h1 h2
    have e1 : a.1 = b.1 := by omega
    have e2 : a.2 = b.2 := by omega
    exact Prod.ext e1 e2) s (sortP_sorted ns) (p.trans (sortP_perm ns).symm)
/-- the pair that stands at a value -/
def vPair (H : Hp) : V → Int × Int
  | .ref t => match H t with
    | some (.frz _ (.tup [.int i, .int j])) => (i, j)
    | _ => (0, 0)
  | _ => (0, 0)
theorem pair_ok {p : Int × Int} (r : Rep K mg S H (dPair p) v) : ∃ t, v = .ref t ∧ TupZ H t [.int p.1, .int p.2] ∧ vPair H v = p := by
  obtain ⟨t, vs, rfl, e, rs⟩ := r
  obtain ⟨x, y, rfl, rx, ry⟩ := rs.two_inv
  have rx : x = .int _ := rx
  have ry : y = .int _ := ry
  subst rx ry
  obtain ⟨o, d, e⟩ := e
  exact ⟨t, rfl, ⟨o, d, e⟩, by simp only [vPair, e]⟩
theorem pairs_ok : ∀ {ps : List (Int × Int)} {vs : List V}, Reps K mg S H (ps.map dPair) vs → (∀ x ∈ vs, ∃ t, x = .ref t ∧ TupZ H t [.int (vPair H x).1, .int (vPair H x).2]) ∧ vs.map (vPair H) = ps
  | [], vs, r => by
    have r : vs = [] := r
    subst r
    exact ⟨fun x hx => (by cases hx), rfl⟩
  | p :: ps, vs, r => by
    obtain ⟨x, r1, rfl, rx, rr⟩ := r
    obtain ⟨t, e1, e2, e3⟩ := pair_ok rx
    obtain ⟨h1, h2⟩ := pairs_ok rr
    refine ⟨fun y hy => ?_, by rw [List.map_cons, e3, h2]⟩
    rcases List.mem_cons.mp hy with rfl | hy
    · exact ⟨t, e1, by rw [e3]; exact e2⟩
    · exact h1 y hy
def fSortP (fz : Bool) (ds : List D) (h : PH) : Out D := match ds with
  | [d] => match (getL h d).bind (optAll asPair) with
    | some ns => mkL fz ((sortP ns).map dPair) h
    | none => .stuck
  | _ => .stuck
theorem cs_sortP {fz : Bool} : CallS K mg E (rSortedPZ K) (fSortP fz) := fun S H h xs ds Q sim r q => by
  unfold fSortP at q
  split at q
  · obtain ⟨x, rfl, rx⟩ := r.one_inv
    split at q
    · rename_i ns e
      obtain ⟨ds, e1, e2⟩ := Option.bind_eq_some_iff.mp e
      obtain ⟨a, vs, rfl, t, rs⟩ := getL_ok sim rx e1
      have e3 := asPairs_eq e2
      subst e3
      obtain ⟨h1, h2⟩ := pairs_ok rs
      refine ⟨a, vs, vPair H, rfl, t, fun x hx => let ⟨u, z1, z2⟩ := h1 x hx; ⟨u, z1, z2.sq⟩, fun ys p hs hb np => ?_⟩
      obtain ⟨es, pe, re⟩ := rs.perm hb.perm
      have e4 : ∃ ms : List (Int × Int), es = ms.map dPair ∧ ms.Perm ns := by
        have : ∀ d ∈ es, ∃ p, d = dPair p := fun d hd => by
          obtain ⟨p, _, e⟩ := List.mem_map.mp (pe.mem_iff.mp hd)
          exact ⟨p, e.symm⟩
        let g : D → Int × Int := fun d => (asPair d).getD (0, 0)
        have e5 : es = (es.map g).map dPair := by
          rw [List.map_map]
          conv => lhs; rw [← List.map_id es]
          refine List.map_congr_left fun d hd => ?_
          obtain ⟨p, rfl⟩ := this d hd
          rfl
        refine ⟨es.map g, e5, ?_⟩
        have e6 := pe.map g
        rw [List.map_map] at e6
        have e7 : ns.map (g ∘ dPair) = ns := by
          conv => rhs; rw [← List.map_id ns]
          exact List.map_congr_left fun p _ => rfl
        rw [e7] at e6
        exact e6
      obtain ⟨ms, rfl, pm⟩ := e4
      obtain ⟨h3, h4⟩ := pairs_ok re
      have e8 : ms = sortP ns := sortP_eq pm (by
        rw [← h4, List.pairwise_map]
        refine List.Pairwise.imp (fun {x y} hxy => ?_) hs
        unfold leP
        rw [show SrtO.lexB (vPair H y) (vPair H x) = false from hxy]
        rfl)
      rw [e8] at re
      exact mkL_ok sim re q np
    · exact q.elim
  · exact q.elim
end
end R
namespace R
open PySem PySem.Spec PyProof.Rows L2

/-! ### statements -/
inductive Fl where
  | nx (ρ : Rho) | rt (d : D) | bk (ρ : Rho) | ct (ρ : Rho)
inductive VF where
  | nx (σ : L2.St) | rt (v : V) | bk (σ : L2.St) | ct (σ : L2.St)
abbrev SM := Rho → PH → Out Fl
@[simp] def endQ (Dn : Ends) : VF → Hp → Prop
  | .nx σ, H => Dn.nx σ H
  | .rt v, H => Dn.rt v H
  | .bk σ, H => Dn.bk σ H
  | .ct σ, H => Dn.ct σ H
def relF (K : PySem.W.Frag) (mg : Str → Option Value) (S : Sx) (H : Hp) : Fl → VF → Prop
  | .nx ρ, .nx σ => EnvR K mg S H ρ σ
  | .rt d, .rt v => Rep K mg S H d v
  | .bk ρ, .bk σ => EnvR K mg S H ρ σ
  | .ct ρ, .ct σ => EnvR K mg S H ρ σ
  | _, _ => False
def tS (K : PySem.W.Frag) (mg : Str → Option Value) (E : XK) (m : SM) : TS := fun Dn σ H => tG K mg E (relF K mg) m σ H (endQ Dn)
def RS (X : Cx) (E : XK) (st : Stmt) (m : SM) : Prop := PS X st (tS X.K X.mg E m)
def RSs (X : Cx) (E : XK) (st : List Stmt) (m : SM) : Prop := PSs X st (tS X.K X.mg E m)
abbrev GM := D → Rho → PH → Out Rho
abbrev GsM := List D → Rho → PH → Out Rho
/-- a target: only the slots vs are stored -/
def relE (K : PySem.W.Frag) (mg : Str → Option Value) (vs : List Nat) (σ : L2.St) (S : Sx) (H : Hp) (ρ' : Rho) (σ' : L2.St) : Prop := EnvR K mg S H ρ' σ' ∧ wipe σ' vs = wipe σ vs
def tGt (K : PySem.W.Frag) (mg : Str → Option Value) (E : XK) (vs : List Nat) (m : GM) : TG := fun v σ H Q =>
  ∃ S ρ h d, Sim K mg S H h ∧ EnvR K mg S H ρ σ ∧ Rep K mg S H d v ∧ Post K mg E (relE K mg vs σ) S H (m d ρ h) Q
def tGs (K : PySem.W.Frag) (mg : Str → Option Value) (E : XK) (vs : List Nat) (m : GsM) : TGs := fun xs σ H Q =>
  ∃ S ρ h ds, Sim K mg S H h ∧ EnvR K mg S H ρ σ ∧ Reps K mg S H ds xs ∧ Post K mg E (relE K mg vs σ) S H (m ds ρ h) Q
def RG (X : Cx) (E : XK) (vs : List Nat) (tg : Expr) (m : GM) : Prop := PG X tg (tGt X.K X.mg E vs m)
def RGs (X : Cx) (E : XK) (vs : List Nat) (tg : List Expr) (m : GsM) : Prop := PGs X tg (tGs X.K X.mg E vs m)
section
variable {X : Cx}
theorem PS.weak {st : Stmt} {t t' : TS} (h : PS X st t) (w : ∀ D σ H, t' D σ H → t D σ H) : PS X st t' := ⟨fun pins s σ H D I q => h.run pins s σ H D I (w D σ H q)⟩
theorem PSs.weak {st : List Stmt} {t t' : TS} (h : PSs X st t) (w : ∀ D σ H, t' D σ H → t D σ H) : PSs X st t' := ⟨fun pins s σ H D I q => h.run pins s σ H D I (w D σ H q)⟩
theorem PG.weak {e : Expr} {t t' : TG} (h : PG X e t) (w : ∀ v σ H Q, t' v σ H Q → t v σ H Q) : PG X e t' := ⟨fun pins s σ H v u Q I r q => h.run pins s σ H v u Q I r (w v σ H Q q)⟩
theorem PGs.weak {e : List Expr} {t t' : TGs} (h : PGs X e t) (w : ∀ v σ H Q, t' v σ H Q → t v σ H Q) : PGs X e t' := ⟨fun pins s σ H v u Q I r q => h.run pins s σ H v u Q I r (w v σ H Q q)⟩
theorem PI.weak {tg e : Expr} {t t' : TI} (h : PI X tg e t) (w : ∀ σ H R, t' σ H R → t σ H R) : PI X tg e t' := ⟨fun pins s σ H R I q => h.run pins s σ H R I (w σ H R q)⟩
end
/-- what a body may lean on -/
structure Cok (X : Cx) (E : XK) : Prop where
  calm : X.calm = true
  nd : X.N.Nodup
  pass : Passes (L2.CX X.prog X.w) X E
  take : Takes X (fun c d _ H => E c d H)
  own : PassesOwn (model X.prog X.w) X.A X.env X.xe

def sNil (ρ : Rho) (h : PH) : Out Fl := .ok (.nx ρ) h
def sSeq (a b : SM) (ρ : Rho) (h : PH) : Out Fl := (a ρ h).bind fun f h1 => match f with
  | .nx ρ1 => b ρ1 h1
  | .rt d => .ok (.rt d) h1
  | .bk ρ1 => .ok (.bk ρ1) h1
  | .ct ρ1 => .ok (.ct ρ1) h1
def sSet (i : Nat) (a : EM) (ρ : Rho) (h : PH) : Out Fl := (a ρ h).bind fun d h1 => .ok (.nx (ρ.set i (some d))) h1
def sAsg (a : EM) (g : GM) (ρ : Rho) (h : PH) : Out Fl := (a ρ h).bind fun d h1 => (g d ρ h1).bind fun ρ1 h2 => .ok (.nx ρ1) h2
def sRet (a : EM) (ρ : Rho) (h : PH) : Out Fl := (a ρ h).bind fun d h1 => .ok (.rt d) h1
@[simp] def sRetN (_ : Rho) (h : PH) : Out Fl := .ok (.rt .non) h
def sExpr (a : EM) (ρ : Rho) (h : PH) : Out Fl := (a ρ h).bind fun _ h1 => .ok (.nx ρ) h1
def sIf (c : TM) (a b : SM) (ρ : Rho) (h : PH) : Out Fl := (c ρ h).bind fun k h1 => match k with
  | true => a ρ h1
  | false => b ρ h1
@[simp] def sBrk (ρ : Rho) (h : PH) : Out Fl := .ok (.bk ρ) h
@[simp] def sCnt (ρ : Rho) (h : PH) : Out Fl := .ok (.ct ρ) h
def sRaise (x : Str) (_ : Rho) (h : PH) : Out Fl := .exc ⟨x, none⟩ h
def gNm (i : Nat) (d : D) (ρ : Rho) (h : PH) : Out Rho := .ok (ρ.set i (some d)) h
def gTp (n : Nat) (g : GsM) (d : D) (ρ : Rho) (h : PH) : Out Rho := match d with
  | .tup ds => if ds.length = n then g ds ρ h else .stuck
  | _ => .stuck
def gsNil (ds : List D) (ρ : Rho) (h : PH) : Out Rho := match ds with
  | [] => .ok ρ h
  | _ => .stuck
def gsCons (g : GM) (r : GsM) (ds : List D) (ρ : Rho) (h : PH) : Out Rho := match ds with
  | d :: ds => (g d ρ h).bind fun ρ1 h1 => r ds ρ1 h1
  | [] => .stuck
def putL (o i d : D) (h : PH) : Option PH := match o, i with
  | .loc n, .int k => match h[n]? with
    | some (.lst ds) => (ixN ds.length k).map fun j => h.set n (.lst (ds.set j d))
    | _ => none
  | _, _ => none
def gSb (o i : EM) (d : D) (ρ : Rho) (h : PH) : Out Rho := (o ρ h).bind fun a h1 => (i ρ h1).bind fun b h2 => match putL a b d h2 with
  | some h3 => .ok ρ h3
  | none => .stuck
section
variable {X : Cx} {E : XK} {st : Stmt} {sts : List Stmt} {e : Expr} {me : EM} {m m1 m2 : SM} {pos : Pos} {vs : List Nat}
theorem rss_nil : RSs X E [] sNil := PSs.weak pss_nil fun D σ H ⟨S, ρ, h, sim, env, q⟩ => Post.get (b := VF.nx σ) q sim env
theorem rss_cons (h1 : RS X E st m1) (h2 : RSs X E sts m2) : RSs X E (st :: sts) (sSeq m1 m2) :=
  PSs.weak (pss_cons h1 h2) fun D σ H ⟨S, ρ, h, sim, env, q⟩ => tG_seq sim env q fun f S1 H1 h1 a e1 s1 r1 env1 q1 => by
    cases a <;> cases f <;> first | exact r1.elim | skip
    · exact ⟨S1, _, h1, s1, r1, q1⟩
    · rename_i d v; exact (Post.get (b := VF.rt v) (Q := endQ D) q1 s1 r1 : endQ D (VF.rt v) _)
    · rename_i d v; exact (Post.get (b := VF.bk v) (Q := endQ D) q1 s1 r1 : endQ D (VF.bk v) _)
    · rename_i d v; exact (Post.get (b := VF.ct v) (Q := endQ D) q1 s1 r1 : endQ D (VF.ct v) _)
theorem rss_one (h1 : RS X E st m) : RSs X E [st] m := pss_one h1
theorem rs_set (i : Nat) {x : Str} {pos' : Pos} (c : Cok X E) (he : RE X E e me) (hi : X.N[i]? = some x := by rfl) (hx : Loc X.env.scope x := by first | exact Or.inl rfl | exact Or.inr rfl) (hs : swapsWith e (some (.Name x pos')) pos.line X.env = pure false := by rfl)
    (hf : X.fn x = true ∨ X.env.scope.names.lookup x = some .local := by first | exact .inl rfl | exact .inr rfl | assumption) : RS X E (.Assign [.Name x pos'] e pos) (sSet i me) :=
  PS.weak (ps_set c.nd hi hx he hs hf) fun D σ H ⟨S, ρ, h, sim, env, q⟩ => tG_seq sim env q fun x S1 H1 h1 dx e1 s1 r1 env1 q1 => Post.get (b := VF.nx (σ.set i (some x))) q1 s1 (env1.set r1)
theorem rs_asg {tg : Expr} {gm : GM} (he : RE X E e me) (hg : RG X E vs tg gm) (hs : swapsWithSole [tg] e pos.line X.env = pure false := by rfl) (hw : swappedStores [tg] e X.env = pure none := by rfl)
    (h1 : (assignEach [tg] X.env).map (·.2) = [assign tg X.env] := by rfl) : RS X E (.Assign [tg] e pos) (sAsg me gm) :=
  PS.weak (ps_asg he hg hs hw h1) fun D σ H ⟨S, ρ, h, sim, env, q⟩ => tG_seq sim env q fun x S1 H1 h1 dx e1 s1 r1 env1 q1 =>
    ⟨S1, ρ, h1, dx, s1, env1, r1, Post.seq q1 fun σ2 S2 H2 h2 ρ2 e2 s2 r2 q2 => Post.get (b := VF.nx σ2) q2 s2 r2.1⟩
theorem rs_ret (he : RE X E e me) : RS X E (.Return (some e) pos) (sRet me) :=
  PS.weak (ps_ret he) fun D σ H ⟨S, ρ, h, sim, env, q⟩ => tG_seq sim env q fun x S1 H1 h1 dx e1 s1 r1 env1 q1 => Post.get (b := VF.rt x) q1 s1 r1
theorem rs_retN : RS X E (.Return none pos) sRetN := PS.weak ps_retN fun D σ H ⟨S, ρ, h, sim, env, q⟩ => Post.get (b := VF.rt V.non) q sim rfl
theorem rs_expr (he : RE X E e me) (hs : swapsWith e none pos.line X.env = pure false := by rfl) : RS X E (.Expr e pos) (sExpr me) :=
  PS.weak (ps_expr he hs) fun D σ H ⟨S, ρ, h, sim, env, q⟩ => tG_seq sim env q fun x S1 H1 h1 dx e1 s1 r1 env1 q1 => Post.get (b := VF.nx σ) q1 s1 env1
theorem rs_pass : RS X E (.Pass pos) sNil := PS.weak ps_pass fun D σ H ⟨S, ρ, h, sim, env, q⟩ => Post.get (b := VF.nx σ) q sim env
theorem rs_break : RS X E (.Break pos) sBrk := PS.weak ps_break fun D σ H ⟨S, ρ, h, sim, env, q⟩ => Post.get (b := VF.bk σ) q sim env
theorem rs_continue : RS X E (.Continue pos) sCnt := PS.weak ps_continue fun D σ H ⟨S, ρ, h, sim, env, q⟩ => Post.get (b := VF.ct σ) q sim env
theorem rs_if {c : Expr} {a b : List Stmt} {tc : TM} (hc : RT X E c tc) (ha : RSs X E a m1) (hb : RSs X E b m2) : RS X E (.If c a b pos) (sIf tc m1 m2) :=
  PS.weak (ps_if hc ha hb) fun D σ H ⟨S, ρ, h, sim, env, q⟩ => tG_seq sim env q fun k S1 H1 h1 k' e1 s1 r1 env1 q1 => by
    have r1 : k' = k := r1
    subst r1
    cases k' with
    | true => rw [if_pos rfl]; exact ⟨S1, ρ, h1, s1, env1, q1⟩
    | false => rw [if_neg Bool.false_ne_true]; exact ⟨S1, ρ, h1, s1, env1, q1⟩
/-- raise X('..'), an own class without __init__ -/
theorem rs_raise {x msg : Str} {C : Addr} {j : Nat} {p p2 p3 : Pos} (c : Cok X E) (hg : Gl X x) (gC : X.mg x = some (.ref C)) (q : PySem.W.excIn X.K C He.veBase "ValueError.__new__" = true) (kC : PySem.W.keepIn X.K (.ref C) = true)
    (sC : PySem.W.subIn X.K (.ref C) (.type "BaseException") = some true) (tC : PySem.W.typeIn X.K (.ref C) = some (.type "type")) (hdb : (x == ("__debug__" : Str)) = false := by decide) :
    RS X E (.Raise (some (.Call (.Name x p) [.Constant (.str msg) j p2] [] p3)) none pos) (sRaise x) :=
  PS.weak (ps_raise c.calm c.take (pmk_own PySem.F.excBase_ValueError q gC kC (raises_own sC tC) hg hdb)) fun D σ H ⟨S, ρ, h, sim, env, q⟩ => q S H Ext.refl sim C gC
/-! ### targets -/
theorem wipe_set {σ : L2.St} {i : Nat} {x : Option V} : ∀ {vs : List Nat}, i ∈ vs → wipe (σ.set i x) vs = wipe σ vs
  | v :: vs, h => by
    show (wipe (σ.set i x) vs).set v none = (wipe σ vs).set v none
    by_cases hv : i ∈ vs
    · rw [wipe_set hv]
    · have e : i = v := by
        rcases List.mem_cons.mp h with z | z
        · exact z
        · exact absurd z hv
      subst e
      apply List.ext_getElem?
      intro k
      by_cases hk : i = k
      · subst hk
        rw [List.getElem?_set, List.getElem?_set, wipe_length, wipe_length]
        simp
      · rw [List.getElem?_set_ne hk, List.getElem?_set_ne hk]
        by_cases hm : k ∈ vs
        · have : ∀ (σ : L2.St), (wipe σ vs)[k]? = if k < σ.length then some none else none := by
            intro σ
            clear hv h
            induction vs with
            | nil => cases hm
            | cons w ws ih =>
              show ((wipe σ ws).set w none)[k]? = _
              rw [List.getElem?_set, wipe_length]
              by_cases hw : w = k
              · simp [hw]
              · rw [if_neg hw]
                rcases List.mem_cons.mp hm with z | z
                · exact absurd z.symm hw
                · exact ih z
          rw [this, this]
          simp
        · rw [wipe_out hm, wipe_out hm, List.getElem?_set_ne hk]
theorem rg_name (i : Nat) {x : Str} (c : Cok X E) (hv : i ∈ vs := by decide) (hi : X.N[i]? = some x := by rfl) (hx : Loc X.env.scope x := by first | exact Or.inl rfl | exact Or.inr rfl)
    (hf : X.fn x = true ∨ X.env.scope.names.lookup x = some .local := by first | exact .inl rfl | exact .inr rfl | assumption) : RG X E vs (.Name x pos) (gNm i) :=
  PG.weak (pg_name c.nd hi hx hf) fun v σ H Q ⟨S, ρ, h, d, sim, env, r, q⟩ => Post.get (b := σ.set i (some v)) q sim ⟨env.set r, wipe_set hv⟩
theorem rgs_nil : RGs X E vs [] gsNil := PGs.weak pgs_nil fun v σ H Q ⟨S, ρ, h, ds, sim, env, r, q⟩ => by
  cases ds with
  | nil =>
    have r : v = [] := r
    exact ⟨r, Post.get (b := σ) q sim ⟨env, rfl⟩⟩
  | cons d ds => exact (q : False).elim
theorem rgs_cons {tg : Expr} {tgs : List Expr} {g : GM} {gs : GsM} (h1 : RG X E vs tg g) (h2 : RGs X E vs tgs gs) (hs : (assignEach (tg :: tgs) X.env).map (·.2) = assign tg X.env :: (assignEach tgs X.env).map (·.2) := by rfl) : RGs X E vs (tg :: tgs) (gsCons g gs) :=
  PGs.weak (pgs_cons h1 h2 hs) fun v σ H Q ⟨S, ρ, h, ds, sim, env, r, q⟩ => by
    cases ds with
    | nil => exact (q : False).elim
    | cons d ds =>
      obtain ⟨x, xs, rfl, rx, rr⟩ := r
      refine ⟨x, xs, rfl, S, ρ, h, d, sim, env, rx, Post.seq (rel := relE X.K X.mg vs σ) q fun σ2 S2 H2 h2 ρ2 e2 s2 r2 q2 => ⟨S2, ρ2, h2, ds, s2, r2.1, Reps.mono sim e2 _ _ rr, ?_⟩⟩
      show Post X.K X.mg E (relE X.K X.mg vs σ2) S2 H2 _ Q
      have e : relE X.K X.mg vs σ2 = relE X.K X.mg vs σ := by
        funext a b c d
        simp only [relE, r2.2]
      rw [e]
      exact q2
theorem rg_tup {tgs : List Expr} {k : Nat} {gs : GsM} (n : Nat) (c : Cok X E) (h : RGs X E vs tgs gs) (hn : (assignEach tgs X.env).length = n := by rfl) (hst : (assignEach tgs X.env).findIdx? (·.1) = none := by rfl) : RG X E vs (.Tuple tgs k pos) (gTp n gs) :=
  PG.weak (pg_tup c.calm h hn hst) fun v σ H Q ⟨S, ρ, h, d, sim, env, r, q⟩ => by
    cases d with
    | tup ds =>
      simp only [gTp] at q
      split at q
      · rename_i hl
        obtain ⟨a, xs, rfl, t, rs⟩ := r
        exact ⟨a, xs, rfl, t.sq, by rw [rs.length]; exact hl, S, ρ, h, ds, sim, env, rs, q⟩
      · exact q.elim
    | _ => exact (q : False).elim
theorem rg_sub {o i : Expr} {mo mi : EM} (ho : RE X E o mo) (hi : RE X E i mi)
    (ha : ∀ v, assign (.Subscript o i pos) X.env v = (do
      let ov ← holding [v] (eval o X.env)
      let iv ← holding [v, ov] (eval i X.env)
      standAt pos
      holding [v, ov, iv] (setItem ov iv v)
      release [v, ov, iv] []) := by intro _; rfl) : RG X E vs (.Subscript o i pos) (gSb mo mi) :=
  PG.weak (pg_sub ho hi set_list ha) fun v σ H Q ⟨S, ρ, h, d, sim, env, r, q⟩ => tG_seq sim env q fun x S1 H1 h1 dx e1 s1 r1 env1 q1 => tG_seq s1 env1 q1 fun y S2 H2 h2 dy e2 s2 r2 env2 q2 => by
    split at q2
    · rename_i h3 hp
      unfold putL at hp
      split at hp
      · rename_i n k
        split at hp
        · rename_i ds eh
          obtain ⟨j, hj, rfl⟩ := Option.map_eq_some_iff.mp hp
          obtain ⟨a, ha, rfl⟩ := Rep.mono s1 e2 _ _ r1
          obtain ⟨b, hb, hO⟩ := s2.obj n _ eh
          rw [ha] at hb
          cases hb
          obtain ⟨ws, t, rs⟩ := hO
          have r2 : y = .int k := r2
          subst r2
          have hm : a ∈ S2.μ := List.mem_of_getElem? ha
          have ew : Ext S2 H2 S2 (upd H2 a (.lst (ws.set j v))) := Ext.write hm
          have rv := Rep.mono s2 ew _ _ (Rep.mono s1 e2 _ _ (Rep.mono sim e1 _ _ r))
          refine ⟨a, ws, k, j, rfl, rfl, t, by rw [rs.length]; exact hj, q2 _ S2 _ ew (s2.write ha ⟨_, upd_same, (Reps.mono s2 ew _ _ rs).set j rv⟩) ⟨env2.mono s2 ew, rfl⟩⟩
        · cases hp
      · cases hp
    · exact q2.elim
end
end R
namespace R
open PySem PySem.Spec PyProof.Rows L2

/-! ### what is walked -/
abbrev Itm := List D × (PH → Bool)
abbrev IM := Rho → PH → Out Itm
def ItR (K : PySem.W.Frag) (mg : Str → Option Value) (S : Sx) (H : Hp) (x : Itm) (J : It) : Prop :=
  ∀ S2 H2 h2, Ext S H S2 H2 → Sim K mg S2 H2 h2 → x.2 h2 = true →
    (∀ i, i < x.1.length → J.go i H2 ∧ ∀ v H3, J.yld i H2 v H3 → ∃ d, x.1[i]? = some d ∧ (∀ a o, H2 a = some o → H3 a = some o) ∧ Rep K mg S2 H3 d v) ∧ J.stop x.1.length H2
def tIM (K : PySem.W.Frag) (mg : Str → Option Value) (E : XK) (m : IM) : TI := fun σ H R => tG K mg E (ItR K mg) m σ H R
def RI (X : Cx) (E : XK) (tg iter : Expr) (m : IM) : Prop := PI X tg iter (tIM X.K X.mg E m)
@[simp] def always : PH → Bool := fun _ => true
def isLst (n : Nat) (ds : List D) : PH → Bool := fun h => match h[n]? with
  | some (.lst es) => D.beqs es ds
  | _ => false
def itL (d : D) (h : PH) : Out Itm := match d with
  | .lst _ ds => .ok (ds, always) h
  | .loc n => match h[n]? with
    | some (.lst ds) => .ok (ds, isLst n ds) h
    | _ => .stuck
  | _ => .stuck
@[simp] def itT (d : D) (h : PH) : Out Itm := match d with
  | .tup ds => .ok (ds, always) h
  | _ => .stuck
def iL (a : EM) (ρ : Rho) (h : PH) : Out Itm := (a ρ h).bind itL
def iT (a : EM) (ρ : Rho) (h : PH) : Out Itm := (a ρ h).bind itT
def irange (lo : Int) (n : Nat) : List D := (List.range n).map fun i => .int (lo + (i : Nat))
def iR1 (a : AM) (ρ : Rho) (h : PH) : Out Itm := (a ρ h).bind fun ds h1 => match ds with
  | [.int j] => if -(2 ^ 62) ≤ j ∧ j < 2 ^ 62 then .ok (irange 0 j.toNat, always) h1 else .stuck
  | _ => .stuck
def iR2 (a : AM) (ρ : Rho) (h : PH) : Out Itm := (a ρ h).bind fun ds h1 => match ds with
  | [.int i, .int j] => if -(2 ^ 62) ≤ i ∧ i < 2 ^ 62 ∧ -(2 ^ 62) ≤ j ∧ j < 2 ^ 62 then .ok (irange i (j - i).toNat, always) h1 else .stuck
  | _ => .stuck
/-- both chk -/
@[simp] def both (a b : PH → Bool) : PH → Bool := fun h => a h && b h
def zipD (xs ys : List D) : List D := (xs.zip ys).map fun p => .tup [p.1, p.2]
def enumD (xs : List D) : List D := (xs.zipIdx).map fun p => .tup [.int (p.2 : Nat), p.1]
/-- zip of two lists or of two tuples -/
def iZ (a : AM) (ρ : Rho) (h : PH) : Out Itm := (a ρ h).bind fun ds h1 => match ds with
  | [.tup xs, .tup ys] => .ok (zipD xs ys, always) h1
  | [x, y] => (itL x h1).bind fun p _ => (itL y h1).bind fun q _ => .ok (zipD p.1 q.1, both p.2 q.2) h1
  | _ => .stuck
def iE (a : AM) (ρ : Rho) (h : PH) : Out Itm := (a ρ h).bind fun ds h1 => match ds with
  | [.tup xs] => .ok (enumD xs, always) h1
  | [x] => (itL x h1).bind fun p _ => .ok (enumD p.1, p.2) h1
  | _ => .stuck
section
variable {K : PySem.W.Frag} {mg : Str → Option Value} {E : XK} {S S' : Sx} {H H' : Hp} {h h' : PH} {d : D} {v : V} {ds es : List D} {vs ws : List V}
/-- the list that an iterator walks stays -/
theorem itL_ok (sim : Sim K mg S H h) (r : Rep K mg S H d v) {p : Itm} {h' : PH} (e : itL d h = .ok p h') : h = h' ∧ ∃ a, v = .ref a ∧ (∃ vs, SqL K H a vs ∧ Reps K mg S H p.1 vs) ∧
    ∀ S2 H2 h2, Ext S H S2 H2 → Sim K mg S2 H2 h2 → p.2 h2 = true → ∃ vs, SqL K H2 a vs ∧ Reps K mg S2 H2 p.1 vs := by
  cases d with
  | lst f xs =>
    cases e
    obtain ⟨a, vs, rfl, t, q⟩ := getL_ok (ds := xs) sim r rfl
    refine ⟨rfl, a, rfl, ⟨vs, t, q⟩, fun S2 H2 h2 e2 s2 _ => ?_⟩
    obtain ⟨b, ws, e3, t2, q2⟩ := getL_ok (ds := xs) s2 (Rep.mono sim e2 _ _ r) rfl
    cases e3
    exact ⟨ws, t2, q2⟩
  | loc n =>
    simp only [itL] at e
    split at e
    · rename_i xs eh
      cases e
      obtain ⟨a, vs, rfl, t, q⟩ := getL_ok (ds := xs) sim r (by simp only [getL, eh])
      refine ⟨rfl, a, rfl, ⟨vs, t, q⟩, fun S2 H2 h2 e2 s2 hc => ?_⟩
      have hc : isLst n xs h2 = true := hc
      unfold isLst at hc
      split at hc
      · rename_i es eh2
        have ee := D.beqs_eq _ _ hc
        subst ee
        obtain ⟨b, ws, e3, t2, q2⟩ := getL_ok (ds := es) s2 (Rep.mono sim e2 _ _ r) (by simp only [getL, eh2])
        cases e3
        exact ⟨ws, t2, q2⟩
      · cases hc
    · cases e
  | _ => cases e
end
section
variable {X : Cx} {E : XK} {tg e e2 : Expr} {ma : EM} {mas : AM} {pos p : Pos}
theorem ri_list (ha : RE X E e ma) : RI X E tg e (iL ma) :=
  PI.weak (pi_list ha) fun σ H R ⟨S, ρ, h, sim, env, q⟩ => tG_seq sim env q fun x S1 H1 h1 dx e1 s1 r1 env1 q1 => by
    cases eo : itL dx h1 with
    | ok p h2 =>
      obtain ⟨rfl, a, rfl, ⟨vs, t, rs⟩, keep⟩ := itL_ok s1 r1 eo
      rw [eo] at q1
      refine ⟨a, rfl, ⟨vs, t⟩, Post.get (b := Itl X.K a) q1 s1 fun S2 H2 h2 e2 s2 hc => ?_⟩
      obtain ⟨ws, t2, rs2⟩ := keep S2 H2 h2 e2 s2 hc
      refine ⟨fun i hi => ⟨⟨ws, ws[i]'(by rw [rs2.length]; exact hi), t2, by simp⟩, fun v H3 hy => ?_⟩, ⟨ws, t2, by rw [rs2.length]; exact Nat.le_refl _⟩⟩
      obtain ⟨e3, hy⟩ := hy
      subst e3
      obtain ⟨v', hv, rv⟩ := rs2.get (List.getElem?_eq_getElem hi)
      have := hy ws t2
      rw [hv] at this
      cases this
      exact ⟨_, List.getElem?_eq_getElem hi, fun _ _ z => z, rv⟩
    | exc x h2 => rw [eo] at q1; cases dx <;> simp only [itL] at eo <;> first | cases eo | (split at eo <;> cases eo)
    | stuck => rw [eo] at q1; exact q1.elim
theorem ri_tup (ha : RE X E e ma) : RI X E tg e (iT ma) :=
  PI.weak (pi_tup ha) fun σ H R ⟨S, ρ, h, sim, env, q⟩ => tG_seq sim env q fun x S1 H1 h1 dx e1 s1 r1 env1 q1 => by
    cases dx with
    | tup xs =>
      obtain ⟨a, vs, rfl, t, rs⟩ := id r1
      refine ⟨a, rfl, ⟨vs, t.sq⟩, Post.get (b := Itt X.K a) q1 s1 fun S2 H2 h2 e2 s2 hc => ?_⟩
      obtain ⟨b, ws, e3, t2, rs2⟩ := Rep.mono s1 e2 _ _ r1
      cases e3
      refine ⟨fun i hi => ⟨⟨ws, ws[i]'(by rw [rs2.length]; exact hi), t2.sq, by simp⟩, fun v H3 hy => ?_⟩, ⟨ws, t2.sq, by rw [rs2.length]; exact Nat.le_refl _⟩⟩
      obtain ⟨e3, hy⟩ := hy
      subst e3
      obtain ⟨v', hv, rv⟩ := rs2.get (List.getElem?_eq_getElem hi)
      have := hy ws t2.sq
      rw [hv] at this
      cases this
      exact ⟨_, List.getElem?_eq_getElem hi, fun _ _ z => z, rv⟩
    | _ => exact q1.elim
theorem range_ok {K : PySem.W.Frag} {mg : Str → Option Value} {S : Sx} {H : Hp} {lo : Int} {n : Nat} : ItR K mg S H (irange lo n, always) (Itr lo n) := fun S2 H2 h2 _ _ _ => by
  have hl : (irange lo n).length = n := by simp [irange]
  refine ⟨fun i hi => ⟨by rw [hl] at hi; exact hi, fun v H3 hy => ?_⟩, ?_⟩
  · obtain ⟨e3, hy⟩ := hy
    subst e3 hy
    have hi' : i < n := by rw [← hl]; exact hi
    exact ⟨.int (lo + (i : Nat)), by simp [irange, hi'], fun _ _ z => z, rfl⟩
  · show n ≤ (irange lo n).length
    rw [hl]
    exact Nat.le_refl n
theorem ri_range1 (hg : Gl X "range") (hm : X.mg "range" = none) (ha : RA X E [e] mas) (hs : starEach [e] X.env = [(false, eval e X.env)] := by rfl) : RI X E tg (.Call (.Name "range" p) [e] [] pos) (iR1 mas) :=
  PI.weak (pi_range1 hg hm ha hs) fun σ H R ⟨S, ρ, h, sim, env, q⟩ => tG_seq sim env q fun x S1 H1 h1 dx e1 s1 r1 env1 q1 => by
    split at q1
    · obtain ⟨y, rfl, ry⟩ := r1.one_inv
      have ry : y = .int _ := ry
      subst ry
      split at q1
      · rename_i hb
        exact ⟨_, rfl, hb.1, hb.2, Post.get (b := Itr 0 _) q1 s1 range_ok⟩
      · exact q1.elim
    · exact q1.elim
theorem ri_range2 (hg : Gl X "range") (hm : X.mg "range" = none) (ha : RA X E [e, e2] mas) (hs : starEach [e, e2] X.env = [(false, eval e X.env), (false, eval e2 X.env)] := by rfl) (hs2 : starEach [e2] X.env = [(false, eval e2 X.env)] := by rfl) : RI X E tg (.Call (.Name "range" p) [e, e2] [] pos) (iR2 mas) :=
  PI.weak (pi_range2 hg hm ha hs hs2) fun σ H R ⟨S, ρ, h, sim, env, q⟩ => tG_seq sim env q fun x S1 H1 h1 dx e1 s1 r1 env1 q1 => by
    split at q1
    · obtain ⟨y, z, rfl, ry, rz⟩ := r1.two_inv
      have ry : y = .int _ := ry
      have rz : z = .int _ := rz
      subst ry rz
      split at q1
      · rename_i hb
        exact ⟨_, _, rfl, hb, Post.get (b := Itr _ _) q1 s1 range_ok⟩
      · exact q1.elim
    · exact q1.elim
theorem zipD_get {xs ys : List D} {i : Nat} {a b : D} (ha : xs[i]? = some a) (hb : ys[i]? = some b) : (zipD xs ys)[i]? = some (.tup [a, b]) := by
  have e : (xs.zip ys)[i]? = some (a, b) := List.getElem?_zip_eq_some.mpr ⟨ha, hb⟩
  simp only [zipD, List.getElem?_map, e, Option.map_some]
theorem zipD_len {xs ys : List D} : (zipD xs ys).length = min xs.length ys.length := by simp [zipD]
theorem pair_new {K : PySem.W.Frag} {mg : Str → Option Value} {S : Sx} {H : Hp} {h : PH} {a b : D} {x y : V} {T : Addr} (sim : Sim K mg S H h) (ra : Rep K mg S H a x) (rb : Rep K mg S H b y) {H' : Hp} (n : NewZ H T [x, y] H') : Rep K mg S H' (.tup [a, b]) (.ref T) := by
  have g := n.keep
  exact ⟨T, _, rfl, n.tup, x, _, rfl, Rep.mono sim (Ext.grow g) _ _ ra, y, _, rfl, Rep.mono sim (Ext.grow g) _ _ rb, rfl⟩
theorem ri_zip {elts : List Expr} {kk : Nat} {tpos : Pos} (hg : Gl X "zip") (hm : X.mg "zip" = none) (ha : RA X E [e, e2] mas) (hs : starEach [e, e2] X.env = (false, eval e X.env) :: starEach [e2] X.env := by rfl) (hpl : (backTo pos (starEach [e2] X.env)).any (·.1) = false := by rfl) : RI X E (.Tuple elts kk tpos) (.Call (.Name "zip" p) [e, e2] [] pos) (iZ mas) :=
  PI.weak (pi_zipZ hg hm ha hs hpl) fun σ H R ⟨S, ρ, h, sim, env, q⟩ => tG_seq sim env q fun x S1 H1 h1 dx e1 s1 r1 env1 q1 => by
    split at q1
    · rename_i xs ys
      obtain ⟨u, w, rfl, ru, rw'⟩ := r1.two_inv
      obtain ⟨a, vs, rfl, t, rs⟩ := id ru
      obtain ⟨b, ws, rfl, t', rs'⟩ := id rw'
      refine ⟨a, b, vs, ws, rfl, .inr ⟨t.sq, t'.sq, Post.get (b := ItzTZ X.K a b) q1 s1 fun S2 H2 h2 e2 s2 hc => ?_⟩⟩
      obtain ⟨_, vs2, e3, t2, rs2⟩ := Rep.mono s1 e2 _ _ ru
      cases e3
      obtain ⟨_, ws2, e3, t2', rs2'⟩ := Rep.mono s1 e2 _ _ rw'
      cases e3
      refine ⟨fun i hi => ?_, ⟨vs2, ws2, t2.sq, t2'.sq, ?_⟩⟩
      · have hi : i < (zipD xs ys).length := hi
        rw [zipD_len] at hi
        have h1 : i < xs.length := by omega
        have h2 : i < ys.length := by omega
        obtain ⟨v1, g1, k1⟩ := rs2.get (List.getElem?_eq_getElem h1)
        obtain ⟨v2, g2, k2⟩ := rs2'.get (List.getElem?_eq_getElem h2)
        refine ⟨⟨vs2, ws2, v1, v2, t2.sq, t2'.sq, g1, g2⟩, fun v H3 hy => ?_⟩
        obtain ⟨T, x1, x2, rfl, nz, f1, f2⟩ := hy
        have g3 := f1 vs2 t2.sq
        have g4 := f2 ws2 t2'.sq
        rw [g1] at g3
        rw [g2] at g4
        cases g3
        cases g4
        exact ⟨_, zipD_get (List.getElem?_eq_getElem h1) (List.getElem?_eq_getElem h2), nz.keep, pair_new s2 k1 k2 nz⟩
      · show vs2.length ≤ (zipD xs ys).length ∨ ws2.length ≤ (zipD xs ys).length
        rw [zipD_len, rs2.length, rs2'.length]
        omega
    · rename_i dx dy hne
      obtain ⟨u, w, rfl, ru, rw'⟩ := r1.two_inv
      cases eo : itL dx h1 with
      | ok p h2 =>
        obtain ⟨rfl, a, rfl, ⟨vs, t, rs⟩, keep⟩ := itL_ok s1 ru eo
        rw [eo] at q1
        cases eo2 : itL dy h1 with
        | ok p' h3 =>
          obtain ⟨rfl, b, rfl, ⟨ws, t', rs'⟩, keep'⟩ := itL_ok s1 rw' eo2
          rw [bind_ok, eo2] at q1
          refine ⟨a, b, vs, ws, rfl, .inl ⟨t, t', Post.get (b := ItzZ X.K a b) q1 s1 fun S2 H2 h2 e2 s2 hc => ?_⟩⟩
          have hc : (p.2 h2 && p'.2 h2) = true := hc
          rw [Bool.and_eq_true] at hc
          obtain ⟨vs2, t2, rs2⟩ := keep S2 H2 h2 e2 s2 hc.1
          obtain ⟨ws2, t2', rs2'⟩ := keep' S2 H2 h2 e2 s2 hc.2
          refine ⟨fun i hi => ?_, ⟨vs2, ws2, t2, t2', ?_⟩⟩
          · have hi : i < (zipD p.1 p'.1).length := hi
            rw [zipD_len] at hi
            have h1 : i < p.1.length := by omega
            have h2 : i < p'.1.length := by omega
            obtain ⟨v1, g1, k1⟩ := rs2.get (List.getElem?_eq_getElem h1)
            obtain ⟨v2, g2, k2⟩ := rs2'.get (List.getElem?_eq_getElem h2)
            refine ⟨⟨vs2, ws2, v1, v2, t2, t2', g1, g2⟩, fun v H3 hy => ?_⟩
            obtain ⟨T, x1, x2, rfl, nz, f1, f2⟩ := hy
            have g3 := f1 vs2 t2
            have g4 := f2 ws2 t2'
            rw [g1] at g3
            rw [g2] at g4
            cases g3
            cases g4
            exact ⟨_, zipD_get (List.getElem?_eq_getElem h1) (List.getElem?_eq_getElem h2), nz.keep, pair_new s2 k1 k2 nz⟩
          · show vs2.length ≤ (zipD p.1 p'.1).length ∨ ws2.length ≤ (zipD p.1 p'.1).length
            rw [zipD_len, rs2.length, rs2'.length]
            omega
        | exc x h3 => rw [bind_ok, eo2] at q1; cases dy <;> simp only [itL] at eo2 <;> first | cases eo2 | (split at eo2 <;> cases eo2)
        | stuck => rw [bind_ok, eo2] at q1; exact q1.elim
      | exc x h2 => rw [eo] at q1; cases dx <;> simp only [itL] at eo <;> first | cases eo | (split at eo <;> cases eo)
      | stuck => rw [eo] at q1; exact q1.elim
    · exact q1.elim
theorem ri_enum {elts : List Expr} {kk : Nat} {tpos : Pos} (hg : Gl X "enumerate") (hm : X.mg "enumerate" = none) (ha : RA X E [e] mas) (hs : starEach [e] X.env = [(false, eval e X.env)] := by rfl) : RI X E (.Tuple elts kk tpos) (.Call (.Name "enumerate" p) [e] [] pos) (iE mas) :=
  PI.weak (pi_enumZ hg hm ha hs) fun σ H R ⟨S, ρ, h, sim, env, q⟩ => tG_seq sim env q fun x S1 H1 h1 dx e1 s1 r1 env1 q1 => by
    split at q1
    · rename_i ds
      obtain ⟨u, rfl, ru⟩ := r1.one_inv
      obtain ⟨a, vs, rfl, t, rs⟩ := ru
      refine ⟨a, vs, rfl, .inr ⟨t.sq, Post.get (b := IteTZ X.K a) q1 s1 fun S2 H2 h2 e2 s2 hc => ?_⟩⟩
      have nm : a ∉ S1.μ := s1.notZ t
      have t2 : TupZ H2 a vs := t.at fun o z => e2.keep a o nm z
      have rs2 := Reps.mono s1 e2 ds vs rs
      refine ⟨fun i hi => ?_, ?_⟩
      · have hi : i < (enumD ds).length := hi
        simp only [enumD, List.length_map, List.length_zipIdx] at hi
        obtain ⟨v1, g1, k1⟩ := rs2.get (List.getElem?_eq_getElem hi)
        refine ⟨⟨vs, v1, t2.sq, g1⟩, fun v H3 hy => ?_⟩
        obtain ⟨T, x2, rfl, nz, f2⟩ := hy
        have f2 := f2 vs t2.sq
        rw [g1] at f2
        cases f2
        refine ⟨.tup [.int (i : Nat), ds[i]], ?_, nz.keep, pair_new (x := V.int (i : Nat)) (a := D.int (i : Nat)) s2 rfl k1 nz⟩
        simp [enumD, hi]
      · exact ⟨vs, t2.sq, by rw [rs2.length]; simp [enumD]⟩
    · rename_i d _
      obtain ⟨u, rfl, ru⟩ := r1.one_inv
      cases eo : itL d h1 with
      | ok p h2 =>
        obtain ⟨rfl, a, rfl, ⟨vs, t, rs⟩, keep⟩ := itL_ok s1 ru eo
        rw [eo] at q1
        refine ⟨a, vs, rfl, .inl ⟨t, Post.get (b := IteZ X.K a) q1 s1 fun S2 H2 h2 e2 s2 hc => ?_⟩⟩
        obtain ⟨vs2, t2, rs2⟩ := keep S2 H2 h2 e2 s2 hc
        refine ⟨fun i hi => ?_, ?_⟩
        · have hi : i < (enumD p.1).length := hi
          simp only [enumD, List.length_map, List.length_zipIdx] at hi
          obtain ⟨v1, g1, k1⟩ := rs2.get (List.getElem?_eq_getElem hi)
          refine ⟨⟨vs2, v1, t2, g1⟩, fun v H3 hy => ?_⟩
          obtain ⟨T, x2, rfl, nz, f2⟩ := hy
          have f2 := f2 vs2 t2
          rw [g1] at f2
          cases f2
          refine ⟨.tup [.int (i : Nat), p.1[i]], ?_, nz.keep, pair_new (x := V.int (i : Nat)) (a := D.int (i : Nat)) s2 rfl k1 nz⟩
          simp [enumD, hi]
        · exact ⟨vs2, t2, by rw [rs2.length]; simp [enumD]⟩
      | exc x h2 => rw [eo] at q1; cases d <;> simp only [itL] at eo <;> first | cases eo | (split at eo <;> cases eo)
      | stuck => rw [eo] at q1; exact q1.elim
    · exact q1.elim
end

/-! ### for, while -/
def forGo (chk : PH → Bool) (g : GM) (body : SM) : List D → Rho → PH → Out Fl
  | [], ρ, h => if chk h then .ok (.nx ρ) h else .stuck
  | d :: r, ρ, h => if chk h then (g d ρ h).bind fun ρ1 h1 => (body ρ1 h1).bind fun f h2 => match f with
      | .nx ρ2 => forGo chk g body r ρ2 h2
      | .ct ρ2 => forGo chk g body r ρ2 h2
      | .bk ρ2 => .ok (.nx ρ2) h2
      | .rt d => .ok (.rt d) h2
    else .stuck
def sFor (i : IM) (g : GM) (body : SM) (ρ : Rho) (h : PH) : Out Fl := (i ρ h).bind fun p h1 => forGo p.2 g body p.1 ρ h1
def whileGo (c : TM) (body : SM) : Nat → Rho → PH → Out Fl
  | 0, _, _ => .stuck
  | n + 1, ρ, h => (c ρ h).bind fun k h1 => match k with
    | true => (body ρ h1).bind fun f h2 => match f with
      | .nx ρ2 => whileGo c body n ρ2 h2
      | .ct ρ2 => whileGo c body n ρ2 h2
      | .bk ρ2 => .ok (.nx ρ2) h2
      | .rt d => .ok (.rt d) h2
    | false => .ok (.nx ρ) h1
def sWhile (n : Nat) (c : TM) (body : SM) : SM := whileGo c body n
section
variable {X : Cx} {E : XK} {pos : Pos} {vs : List Nat}
theorem rs_for {tg iter : Expr} {body : List Stmt} {mi : IM} {gm : GM} {bm : SM} (c : Cok X E) (hi : RI X E tg iter mi) (hg : RG X E vs tg gm) (hb : RSs X E body bm) (hs : ∀ x, foldedSetIterable iter X.env x = pure x := by intro _; rfl) : RS X E (.For tg iter body [] pos) (sFor mi gm bm) :=
  PS.weak (ps_for c.own c.calm hi hg hb hs) fun Dn σ H ⟨S, ρ, h, sim, env, q⟩ => tG_seq sim env q fun J S1 H1 h1 p e1 s1 r1 env1 q1 => by
    refine ⟨fun i m σ H => i ≤ p.1.length ∧ m = p.1.length - i ∧ ∃ S ρ h, Ext S1 H1 S H ∧ Sim X.K X.mg S H h ∧ EnvR X.K X.mg S H ρ σ ∧ Post X.K X.mg E (relF X.K X.mg) S H (forGo p.2 gm bm (p.1.drop i) ρ h) (endQ Dn),
      ⟨_, Nat.zero_le _, rfl, S1, ρ, h1, Ext.refl, s1, env1, q1⟩, ?_⟩
    rintro i m σ H ⟨hle, rfl, S, ρ, h, e, s, env, q⟩
    by_cases hi : i < p.1.length
    · rw [List.drop_eq_getElem_cons hi] at q
      unfold forGo at q
      split at q
      · rename_i hc
        obtain ⟨hgo, hstop⟩ := r1 S H h e s hc
        obtain ⟨go, yl⟩ := hgo i hi
        refine .inr ⟨go, fun σ' H' => i + 1 ≤ p.1.length ∧ ∃ S ρ h, Ext S1 H1 S H' ∧ Sim X.K X.mg S H' h ∧ EnvR X.K X.mg S H' ρ σ' ∧ Post X.K X.mg E (relF X.K X.mg) S H' (forGo p.2 gm bm (p.1.drop (i + 1)) ρ h) (endQ Dn), ?_, ?_⟩
        · rintro σ' H' ⟨hl, hr⟩
          exact ⟨p.1.length - (i + 1), by omega, hl, rfl, hr⟩
        · intro v H3 hy
          obtain ⟨d, hd, gk, rv⟩ := yl v H3 hy
          rw [List.getElem?_eq_getElem hi] at hd
          cases hd
          have eg : Ext S H S H3 := Ext.grow gk
          have s3 := s.grow gk
          refine ⟨S, ρ, h, p.1[i], s3, env.mono s eg, rv, Post.seq (q.mono s3 eg) fun σ4 S4 H4 h4 ρ4 e4 s4 r4 q4 => ⟨S4, ρ4, h4, s4, r4.1, Post.seq q4 fun f S5 H5 h5 a e5 s5 r5 q5 => ?_⟩⟩
          have e15 : Ext S1 H1 S5 H5 := ((e.trans s eg).trans s3 e4).trans s4 e5
          cases a <;> cases f <;> first | exact r5.elim | skip
          · exact ⟨hi, S5, _, h5, e15, s5, r5, q5⟩
          · rename_i d' v'; exact Post.get (b := VF.rt v') (Q := endQ Dn) q5 s5 r5
          · rename_i d' v'; exact Post.get (b := VF.nx v') (Q := endQ Dn) q5 s5 r5
          · exact ⟨hi, S5, _, h5, e15, s5, r5, q5⟩
      · exact q.elim
    · have hi' : i = p.1.length := by omega
      subst hi'
      rw [List.drop_length] at q
      unfold forGo at q
      split at q
      · rename_i hc
        exact .inl ⟨(r1 S H h e s hc).2, Post.get (b := VF.nx σ) (Q := endQ Dn) q s env⟩
      · exact q.elim
theorem rs_while (n : Nat) {c : Expr} {body : List Stmt} {tc : TM} {bm : SM} (k : Cok X E) (hc : RT X E c tc) (hb : RSs X E body bm) : RS X E (.While c body [] pos) (sWhile n tc bm) :=
  PS.weak (ps_while k.own hc hb) fun Dn σ H ⟨S, ρ, h, sim, env, q⟩ => by
    refine ⟨fun m σ H => ∃ S ρ h, Sim X.K X.mg S H h ∧ EnvR X.K X.mg S H ρ σ ∧ Post X.K X.mg E (relF X.K X.mg) S H (whileGo tc bm m ρ h) (endQ Dn), ⟨n, S, ρ, h, sim, env, q⟩, ?_⟩
    rintro m σ H ⟨S, ρ, h, sim, env, q⟩
    cases m with
    | zero => exact (q : False).elim
    | succ m =>
      unfold whileGo at q
      refine tG_seq sim env q fun b S1 H1 h1 b' e1 s1 r1 env1 q1 => ?_
      have r1 : b' = b := r1
      subst r1
      cases b' with
      | true =>
        rw [if_pos rfl]
        refine ⟨_, fun σ' H' n' => ⟨m, Nat.lt_succ_self m, n'⟩, S1, ρ, h1, s1, env1, Post.seq q1 fun f S5 H5 h5 a e5 s5 r5 q5 => ?_⟩
        cases a <;> cases f <;> first | exact r5.elim | skip
        · exact ⟨S5, _, h5, s5, r5, q5⟩
        · rename_i d' v'; exact Post.get (b := VF.rt v') (Q := endQ Dn) q5 s5 r5
        · rename_i d' v'; exact Post.get (b := VF.nx v') (Q := endQ Dn) q5 s5 r5
        · exact ⟨S5, _, h5, s5, r5, q5⟩
      | false =>
        rw [if_neg Bool.false_ne_true]
        exact Post.get (b := VF.nx σ) (Q := endQ Dn) q1 s1 env1
end
end R
namespace R
open PySem PySem.Spec PyProof.Rows L2

/-! ### list comprehensions -/
def Out.calm {α : Type} : Out α → Out α
  | .exc _ _ => .stuck
  | o => o
@[simp] theorem calm_ok {α : Type} (a : α) (h : PH) : (Out.ok a h).calm = .ok a h := rfl
@[simp] theorem calm_stuck {α : Type} : (Out.stuck : Out α).calm = .stuck := rfl
@[simp] def wipeR (ρ : Rho) : List Nat → Rho
  | [] => ρ
  | v :: vs => (wipeR ρ vs).set v none
def lcGo (chk : PH → Bool) (g : GM) (t : TM) (e : EM) (ρ : Rho) : List D → List D → PH → Out (List D)
  | [], acc, h => if chk h then .ok acc h else .stuck
  | d :: r, acc, h => if chk h then (g d ρ h).calm.bind fun ρ1 h1 => (t ρ1 h1).calm.bind fun b h2 => match b with
      | true => (e ρ1 h2).calm.bind fun y h3 => if acc.length < sizeLine then lcGo chk g t e ρ r (acc ++ [y]) h3 else .stuck
      | false => lcGo chk g t e ρ r acc h2
    else .stuck
def eLC (fz : Bool) (i : IM) (g : GM) (t : TM) (e : EM) (vs : List Nat) (ρ : Rho) (h : PH) : Out D := (i ρ h).bind fun p h1 => (lcGo p.2 g t e (wipeR ρ vs) p.1 [] h1).bind fun ds h2 => mkL fz ds h2
@[simp] def tTrue (_ : Rho) (h : PH) : Out Bool := .ok true h
def RTs (X : Cx) (E : XK) (es : List Expr) (m : TM) : Prop := PTs X es (tG X.K X.mg E relEq m)
section
variable {K : PySem.W.Frag} {mg : Str → Option Value} {E E1 : XK} {S S1 : Sx} {H H1 : Hp} {h h1 : PH} {ρ : Rho} {σ : L2.St} {d : D} {v : V} {ds es : List D} {vs ws : List V}
theorem EnvR.wipe (r : EnvR K mg S H ρ σ) : ∀ vs : List Nat, EnvR K mg S H (wipeR ρ vs) (L2.wipe σ vs)
  | [] => r
  | v :: vs => (EnvR.wipe r vs).unset
/-- what runs quietly, wanted at another base -/
theorem Post.calmRun {α β γ δ : Type} {rel : Sx → Hp → α → β → Prop} {rel' : Sx → Hp → γ → δ → Prop} {o : Out α} {k : α → PH → Out γ} {Q : δ → Hp → Prop} {E0 : XK} (p : Post K mg E rel' S1 H1 (o.calm.bind k) Q) :
    Post K mg E0 rel S H o (fun b H' => ∃ S' h' a, Ext S H S' H' ∧ Sim K mg S' H' h' ∧ rel S' H' a b ∧ Post K mg E rel' S1 H1 (k a h') Q) := by
  cases o with
  | ok a h' => exact fun b S' H' e s r => ⟨S', h', a, e, s, r, p⟩
  | exc x h' => exact (p : False).elim
  | stuck => exact (p : False).elim
theorem wipe_get {k : Nat} : ∀ {vs : List Nat} {σ : L2.St}, k ∈ vs → (L2.wipe σ vs)[k]? = if k < σ.length then some none else none
  | w :: ws, σ, h => by
    show ((L2.wipe σ ws).set w none)[k]? = _
    rw [List.getElem?_set, L2.wipe_length]
    by_cases hw : w = k
    · simp [hw]
    · rw [if_neg hw]
      rcases List.mem_cons.mp h with z | z
      · exact absurd z.symm hw
      · exact wipe_get z
theorem wipe_wipe {σ : L2.St} {vs : List Nat} : L2.wipe (L2.wipe σ vs) vs = L2.wipe σ vs := by
  apply List.ext_getElem?
  intro k
  by_cases h : k ∈ vs
  · rw [wipe_get h, wipe_get h, L2.wipe_length]
  · rw [L2.wipe_out h]
mutual
/-- an untracked list of ours is written -/
theorem Rep.updF {D0 : Addr} {xs ys : List V} (f : S.F D0) (o : ¬ S.O D0) (e : H D0 = some (.lst xs)) : ∀ (d : D) (v : V), Rep K mg S H d v → Rep K mg S (upd H D0 (.lst ys)) d v
  | .non, _, r => r
  | .bl _, _, r => r
  | .int _, _, r => r
  | .str _, _, r => r
  | .tup ds, v, r => by
    obtain ⟨a, vs, rfl, ⟨ob, dn, t⟩, q⟩ := r
    exact ⟨a, vs, rfl, ⟨ob, dn, by rw [upd_ne (ne_of t e (by intro z; cases z))]; exact t⟩, Reps.updF f o e ds vs q⟩
  | .lst g ds, v, r => by
    obtain ⟨a, vs, rfl, t, q⟩ := r
    refine ⟨a, vs, rfl, ?_, Reps.updF f o e ds vs q⟩
    cases g with
    | own => exact ⟨by rw [upd_ne (fun z => t.2 (by rw [z]; exact f))]; exact t.1, t.2⟩
    | bor => exact ⟨by rw [upd_ne (fun z => o (by rw [← z]; exact t.2))]; exact t.1, t.2⟩
    | cst =>
      rcases t with ⟨ob, t⟩ | t | t
      · exact .inl ⟨ob, by rw [upd_ne (ne_of t e (by intro z; cases z))]; exact t⟩
      · exact .inr (.inl t)
      · exact .inr (.inr ⟨by rw [upd_ne (fun z => o (by rw [← z]; exact t.2))]; exact t.1, t.2⟩)
  | .loc n, v, r => r
  | .gl _, _, r => r
  | .ty _, _, r => r
  | .exn _, _, r => by
    obtain ⟨a, C, rfl, g, t⟩ := r
    exact ⟨a, C, rfl, g, t.map fun b o q c => by
      rw [upd_ne (fun z => by
        rw [z, e] at q
        have q := Option.some.inj q
        subst q
        rcases c with ⟨_, c⟩ | ⟨_, c⟩ <;> cases c)]
      exact q⟩
  | .oth b, _, r => by
    obtain ⟨a, kws, rfl, t, q⟩ := r
    exact ⟨a, kws, rfl, by rw [upd_ne (fun z => by rw [z, e] at t; cases t)]; exact t, q⟩
theorem Reps.updF {D0 : Addr} {xs ys : List V} (f : S.F D0) (o : ¬ S.O D0) (e : H D0 = some (.lst xs)) : ∀ (ds : List D) (vs : List V), Reps K mg S H ds vs → Reps K mg S (upd H D0 (.lst ys)) ds vs
  | [], _, r => r
  | d :: ds, vs, r => by
    obtain ⟨v, r', rfl, q, t⟩ := r
    exact ⟨v, r', rfl, Rep.updF f o e d v q, Reps.updF f o e ds r' t⟩
end
theorem Sim.updF {D0 : Addr} {xs ys : List V} (sim : Sim K mg S H h) (f : S.F D0) (o : ¬ S.O D0) (nm : D0 ∉ S.μ) (e : H D0 = some (.lst xs)) : Sim K mg S (upd H D0 (.lst ys)) h := by
  refine ⟨sim.len, sim.nd, sim.sub, sim.no, fun a ha => ?_, fun a ha => ?_, fun n o' eh => ?_⟩
  · by_cases z : a = D0
    · rw [z, upd_same]; simp
    · rw [upd_ne z]; exact sim.fn a ha
  · by_cases z : a = D0
    · rw [z, upd_same]; simp
    · rw [upd_ne z]; exact sim.on a ha
  · obtain ⟨a, ha, r⟩ := sim.obj n o' eh
    refine ⟨a, ha, ?_⟩
    have ne : a ≠ D0 := fun z => nm (by rw [← z]; exact List.mem_of_getElem? ha)
    cases o' with
    | lst ds => obtain ⟨vs, e1, q⟩ := r; exact ⟨vs, by rw [upd_ne ne]; exact e1, Reps.updF f o e _ _ q⟩
    | dct kvs => obtain ⟨kws, e1, e2, q⟩ := r; exact ⟨kws, by rw [upd_ne ne]; exact e1, e2, Reps.updF f o e _ _ q⟩
    | ins c fs => obtain ⟨C, dx, fvs, i0, ic, e1, e2, q⟩ := r; exact ⟨C, dx, fvs, i0, ic, by rw [upd_ne ne]; exact e1, e2, Reps.updF f o e _ _ q⟩
mutual
theorem Rep.lessF {S' : Sx} (o : S'.O = S.O) (m : S'.μ = S.μ) (f : ∀ a, S'.F a → S.F a) : ∀ (d : D) (v : V), Rep K mg S H d v → Rep K mg S' H d v
  | .non, _, r => r
  | .bl _, _, r => r
  | .int _, _, r => r
  | .str _, _, r => r
  | .tup ds, v, r => by
    obtain ⟨a, vs, rfl, t, q⟩ := r
    exact ⟨a, vs, rfl, t, Reps.lessF o m f ds vs q⟩
  | .lst g ds, v, r => by
    obtain ⟨a, vs, rfl, t, q⟩ := r
    refine ⟨a, vs, rfl, ?_, Reps.lessF o m f ds vs q⟩
    cases g with
    | own => exact ⟨t.1, fun z => t.2 (f a z)⟩
    | bor => exact ⟨t.1, by rw [o]; exact t.2⟩
    | cst => exact t.imp id fun z => z.imp id fun z => ⟨z.1, by rw [o]; exact z.2⟩
  | .loc n, v, r => by
    obtain ⟨a, t, rfl⟩ := r
    exact ⟨a, by rw [m]; exact t, rfl⟩
  | .gl _, _, r => r
  | .ty _, _, r => r
  | .exn _, _, r => r
  | .oth true, _, r => by
    obtain ⟨a, kws, rfl, t, q⟩ := r
    exact ⟨a, kws, rfl, t, fun z => (show ¬ S.F a from q) (f a z)⟩
  | .oth false, _, r => by
    obtain ⟨a, kws, rfl, t, q⟩ := r
    exact ⟨a, kws, rfl, t, by show S'.O a; rw [o]; exact q⟩
theorem Reps.lessF {S' : Sx} (o : S'.O = S.O) (m : S'.μ = S.μ) (f : ∀ a, S'.F a → S.F a) : ∀ (ds : List D) (vs : List V), Reps K mg S H ds vs → Reps K mg S' H ds vs
  | [], _, r => r
  | d :: ds, vs, r => by
    obtain ⟨v, r', rfl, q, t⟩ := r
    exact ⟨v, r', rfl, Rep.lessF o m f d v q, Reps.lessF o m f ds r' t⟩
end
mutual
theorem Rep.moreM {S' : Sx} (o : S'.O = S.O) (f : ∀ a, S'.F a ↔ S.F a) (m : ∃ ν, S'.μ = S.μ ++ ν) : ∀ (d : D) (v : V), Rep K mg S H d v → Rep K mg S' H d v
  | .non, _, r => r
  | .bl _, _, r => r
  | .int _, _, r => r
  | .str _, _, r => r
  | .tup ds, v, r => by
    obtain ⟨a, vs, rfl, t, q⟩ := r
    exact ⟨a, vs, rfl, t, Reps.moreM o f m ds vs q⟩
  | .lst g ds, v, r => by
    obtain ⟨a, vs, rfl, t, q⟩ := r
    refine ⟨a, vs, rfl, ?_, Reps.moreM o f m ds vs q⟩
    cases g with
    | own => exact ⟨t.1, fun z => t.2 ((f a).mp z)⟩
    | bor => exact ⟨t.1, by rw [o]; exact t.2⟩
    | cst => exact t.imp id fun z => z.imp id fun z => ⟨z.1, by rw [o]; exact z.2⟩
  | .loc n, v, r => by
    obtain ⟨a, t, rfl⟩ := r
    obtain ⟨ν, hν⟩ := m
    exact ⟨a, by rw [hν, List.getElem?_append_left (List.getElem?_eq_some_iff.mp t).1]; exact t, rfl⟩
  | .gl _, _, r => r
  | .ty _, _, r => r
  | .exn _, _, r => r
  | .oth true, _, r => by
    obtain ⟨a, kws, rfl, t, q⟩ := r
    exact ⟨a, kws, rfl, t, fun z => (show ¬ S.F a from q) ((f a).mp z)⟩
  | .oth false, _, r => by
    obtain ⟨a, kws, rfl, t, q⟩ := r
    exact ⟨a, kws, rfl, t, by show S'.O a; rw [o]; exact q⟩
theorem Reps.moreM {S' : Sx} (o : S'.O = S.O) (f : ∀ a, S'.F a ↔ S.F a) (m : ∃ ν, S'.μ = S.μ ++ ν) : ∀ (ds : List D) (vs : List V), Reps K mg S H ds vs → Reps K mg S' H ds vs
  | [], _, r => r
  | d :: ds, vs, r => by
    obtain ⟨v, r', rfl, q, t⟩ := r
    exact ⟨v, r', rfl, Rep.moreM o f m d v q, Reps.moreM o f m ds r' t⟩
end
end
section
variable {X : Cx} {E : XK}
theorem rts_nil : RTs X E [] tTrue := by
  refine ⟨fun pins s σ H Q I ⟨S, ρ, h, sim, env, q⟩ => pts_nil.run pins s σ H Q I ?_⟩
  exact Post.get (b := true) q sim rfl
theorem rts_one {c : Expr} {m : TM} (h : RT X E c m) : RTs X E [c] m := pts_one h
theorem lc_read {K : PySem.W.Frag} {mg : Str → Option Value} {fz : Bool} {mi : IM} {gm : GM} {tm : TM} {em : EM} {vs : List Nat} {S : Sx} {H : Hp} {ρ : Rho} {σ : L2.St} {h : PH} {Q : VK} (sim : Sim K mg S H h) (env : EnvR K mg S H ρ σ) (q : Post K mg E (Rep K mg) S H (eLC fz mi gm tm em vs ρ h) Q) :
    tLc (tIM K mg E mi) (tGt K mg E0 vs gm) (tG K mg E0 relEq tm) (tG K mg E0 (Rep K mg) em) vs σ H Q :=
  tG_seq sim env q fun J S1 H1 h1 p e1 s1 r1 env1 q1 => fun D0 nD => by
    have env2 := env1.wipe vs
    let S0 : Sx := ⟨S1.O, fun a => S1.F a ∨ a = D0, S1.μ⟩
    have oD : ¬ S1.O D0 := fun z => s1.on D0 z nD
    have mD : D0 ∉ S1.μ := fun z => s1.live z nD
    have e0 : Ext S1 H1 S0 (upd H1 D0 (.lst [])) := ⟨rfl, ⟨[], by simp [S0], fun a z => by cases z⟩, fun a ha => ha.imp id fun z => by rw [z]; exact nD, fun a ha => .inl ha, fun a u _ z => new_keep nD a u z⟩
    have s0 : Sim K mg S0 (upd H1 D0 (.lst [])) h1 := by
      have g := s1.grow (new_keep (o := .lst []) nD)
      refine ⟨g.len, g.nd, fun a ha => .inl (g.sub a ha), g.no, fun a ha => ?_, g.on, fun n o z => ?_⟩
      · rcases ha with ha | rfl
        · exact g.fn a ha
        · rw [upd_same]; simp
      · obtain ⟨a, ha, r⟩ := s1.obj n o z
        exact ⟨a, ha, r.mono s1 e0 (new_keep nD a)⟩
    refine ⟨fun i m H => i ≤ p.1.length ∧ m = p.1.length - i ∧ ∃ S h acc va, Ext S1 H1 S H ∧ Sim K mg S H h ∧ S.F D0 ∧ D0 ∉ S.μ ∧ H D0 = some (.lst va) ∧ Reps K mg S H acc va ∧
        Post K mg E (Rep K mg) S1 H1 ((lcGo p.2 gm tm em (wipeR ρ vs) (p.1.drop i) acc h).bind fun ds h2 => mkL fz ds h2) Q,
      ⟨_, Nat.zero_le _, rfl, S0, h1, [], [], e0, s0, .inr rfl, mD, upd_same, rfl, q1⟩, ?_⟩
    rintro i m H ⟨hle, rfl, S, h, acc, va, e, s, fD, mD', hD, ra, q⟩
    have oD' : ¬ S.O D0 := by rw [e.o]; exact oD
    by_cases hi : i < p.1.length
    · rw [List.drop_eq_getElem_cons hi] at q
      unfold lcGo at q
      split at q
      · rename_i hc
        obtain ⟨hgo, hstop⟩ := r1 S H h e s hc
        obtain ⟨go, yl⟩ := hgo i hi
        refine .inr ⟨go, fun H' => i + 1 ≤ p.1.length ∧ ∃ S h acc va, Ext S1 H1 S H' ∧ Sim K mg S H' h ∧ S.F D0 ∧ D0 ∉ S.μ ∧ H' D0 = some (.lst va) ∧ Reps K mg S H' acc va ∧
          Post K mg E (Rep K mg) S1 H1 ((lcGo p.2 gm tm em (wipeR ρ vs) (p.1.drop (i + 1)) acc h).bind fun ds h2 => mkL fz ds h2) Q, fun H' hN => ⟨_, by omega, hN.1, rfl, hN.2⟩, fun v H3 hy => ?_⟩
        obtain ⟨d, hd, gk, rv⟩ := yl v H3 hy
        rw [List.getElem?_eq_getElem hi] at hd
        cases hd
        have eg : Ext S H S H3 := Ext.grow gk
        have s3 := s.grow gk
        have e3 : Ext S1 H1 S H3 := e.trans s eg
        have assoc : ∀ {α β γ : Type} (o : Out α) (k : α → PH → Out β) (k2 : β → PH → Out γ), (o.bind k).bind k2 = o.bind fun a h => (k a h).bind k2 := fun o k k2 => by cases o <;> rfl
        rw [assoc] at q
        refine ⟨S, wipeR ρ vs, h, p.1[i], s3, env2.mono s1 e3, rv, (Post.calmRun q).imp ?_⟩
        rintro σ4 H4 ⟨S4, h4, ρ4, e4, s4, ⟨renv, hw⟩, q4⟩
        refine ⟨by rw [hw, wipe_wipe], ?_⟩
        rw [assoc] at q4
        refine ⟨S4, ρ4, h4, s4, renv, (Post.calmRun q4).imp ?_⟩
        rintro b H5 ⟨S5, h5, b', e5, s5, rb, q5⟩
        have rb : b' = b := rb
        subst rb
        have k35 : Ext S H3 S5 H5 := e4.trans s4 e5
        have e15 : Ext S1 H1 S5 H5 := e3.trans s3 k35
        have hD5 : H5 D0 = some (.lst va) := k35.keep D0 _ mD' (gk _ _ hD)
        have fD5 : S5.F D0 := k35.fm _ fD
        have mD5 : D0 ∉ S5.μ := fun z => by
          obtain ⟨ν, hν, hn⟩ := k35.mu
          rw [hν] at z
          rcases List.mem_append.mp z with z | z
          · exact mD' z
          · have := hn _ z
            rw [gk _ _ hD] at this
            cases this
        have ra5 : Reps K mg S5 H5 acc va := Reps.mono s3 k35 _ _ (Reps.mono s eg _ _ ra)
        cases b' with
        | false =>
          rw [if_neg Bool.false_ne_true]
          exact ⟨hi, S5, h5, acc, va, e15, s5, fD5, mD5, hD5, ra5, q5⟩
        | true =>
          rw [if_pos rfl]
          have q5' : Post K mg E (Rep K mg) S1 H1 (((em ρ4 h5).calm.bind fun y h3 => if acc.length < sizeLine then lcGo p.2 gm tm em (wipeR ρ vs) (p.1.drop (i + 1)) (acc ++ [y]) h3 else .stuck).bind fun ds h2 => mkL fz ds h2) Q := q5
          rw [assoc] at q5'
          refine ⟨S5, ρ4, h5, s5, renv.mono s4 e5, (Post.calmRun q5').imp ?_⟩
          rintro y H6 ⟨S6, h6, dy, e6, s6, ry, q6⟩
          have e16 : Ext S1 H1 S6 H6 := e15.trans s5 e6
          have hD6 : H6 D0 = some (.lst va) := e6.keep D0 _ mD5 hD5
          have fD6 : S6.F D0 := e6.fm _ fD5
          have oD6 : ¬ S6.O D0 := by rw [e16.o]; exact oD
          have mD6 : D0 ∉ S6.μ := fun z => by
            obtain ⟨ν, hν, hn⟩ := e6.mu
            rw [hν] at z
            rcases List.mem_append.mp z with z | z
            · exact mD5 z
            · have := hn _ z
              rw [hD5] at this
              cases this
          have ra6 : Reps K mg S6 H6 acc va := Reps.mono s5 e6 _ _ ra5
          split at q6
          · rename_i hz
            refine ⟨va, hD6, by rw [ra6.length]; exact hz, hi, S6, h6, acc ++ [dy], va ++ [y], ⟨e16.o, e16.mu, e16.fr, e16.fm, fun a u ha hu => ?_⟩, s6.updF fD6 oD6 mD6 hD6, fD6, mD6, upd_same, ?_, q6⟩
            · rw [upd_ne (ne_of_none hu nD)]
              exact e16.keep a u ha hu
            · exact (Reps.updF fD6 oD6 hD6 _ _ ra6).append (Reps.one (Rep.updF fD6 oD6 hD6 _ _ ry))
          · exact (q6 : False).elim
      · exact (q : False).elim
    · have hi' : i = p.1.length := by omega
      subst hi'
      rw [List.drop_length] at q
      unfold lcGo at q
      split at q
      · rename_i hc
        refine .inl ⟨(r1 S H h e s hc).2, ?_⟩
        rw [bind_ok] at q
        cases fz with
        | true =>
          let S2 : Sx := ⟨S.O, fun a => S.F a ∧ a ≠ D0, S.μ⟩
          have e2 : Ext S H S2 H → True := fun _ => True.intro
          have e12 : Ext S1 H1 S2 H := ⟨e.o, e.mu, fun a ha => e.fr a ha.1, fun a ha => ⟨e.fm a ha, fun z => s1.fn a ha (by rw [z]; exact nD)⟩, e.keep⟩
          have s2 : Sim K mg S2 H h := by
            refine ⟨s.len, s.nd, fun a ha => ⟨s.sub a ha, fun z => mD' (by rw [← z]; exact ha)⟩, s.no, fun a ha => s.fn a ha.1, s.on, fun n o z => ?_⟩
            obtain ⟨a, ha, r⟩ := s.obj n o z
            refine ⟨a, ha, ?_⟩
            cases o with
            | lst ds => obtain ⟨vs, e1, q⟩ := r; exact ⟨vs, e1, Reps.lessF (S := S) (S' := S2) rfl rfl (fun _ z => And.left z) _ _ q⟩
            | dct kvs => obtain ⟨kws, e1, e2, q⟩ := r; exact ⟨kws, e1, e2, Reps.lessF (S := S) (S' := S2) rfl rfl (fun _ z => And.left z) _ _ q⟩
            | ins c fs => obtain ⟨C, dx, fvs, i0, ic, e1, e2, q⟩ := r; exact ⟨C, dx, fvs, i0, ic, e1, e2, Reps.lessF (S := S) (S' := S2) rfl rfl (fun _ z => And.left z) _ _ q⟩
          exact q (.ref D0) S2 H e12 s2 ⟨D0, va, rfl, ⟨hD, fun z => z.2 rfl⟩, Reps.lessF (S := S) (S' := S2) rfl rfl (fun _ z => And.left z) _ _ ra⟩
        | false =>
          let S2 : Sx := ⟨S.O, S.F, S.μ ++ [D0]⟩
          have e12 : Ext S1 H1 S2 H := by
            obtain ⟨ν, hν, hn⟩ := e.mu
            refine ⟨e.o, ⟨ν ++ [D0], by show S.μ ++ [D0] = _; rw [hν, List.append_assoc], fun a ha => ?_⟩, e.fr, e.fm, e.keep⟩
            rcases List.mem_append.mp ha with z | z
            · exact hn a z
            · rw [List.mem_singleton.mp z]; exact nD
          have ap : ∀ (d : List D) (v : List V), Reps K mg S H d v → Reps K mg S2 H d v := Reps.moreM (S' := S2) rfl (fun _ => Iff.rfl) ⟨[D0], rfl⟩
          have s2 : Sim K mg S2 H (h ++ [.lst acc]) := by
            refine ⟨by simp [S2, s.len], ?_, fun a ha => ?_, fun a ha => ?_, s.fn, s.on, fun n o z => ?_⟩
            · show (S.μ ++ [D0]).Nodup
              refine List.nodup_append.mpr ⟨s.nd, by simp, fun a ha b hb => ?_⟩
              rw [List.mem_singleton.mp hb]
              rintro rfl
              exact mD' ha
            · rcases List.mem_append.mp ha with z | z
              · exact s.sub a z
              · rw [List.mem_singleton.mp z]; exact fD
            · rcases List.mem_append.mp ha with z | z
              · exact s.no a z
              · rw [List.mem_singleton.mp z]; exact oD'
            · by_cases hn : n < h.length
              · rw [List.getElem?_append_left hn] at z
                obtain ⟨a, ha, r⟩ := s.obj n o z
                refine ⟨a, ?_, ?_⟩
                · show (S.μ ++ [D0])[n]? = _
                  rw [List.getElem?_append_left (by rw [s.len]; exact hn)]
                  exact ha
                · cases o with
                  | lst ds => obtain ⟨vs, e1, q⟩ := r; exact ⟨vs, e1, ap _ _ q⟩
                  | dct kvs => obtain ⟨kws, e1, e2, q⟩ := r; exact ⟨kws, e1, e2, ap _ _ q⟩
                  | ins c fs => obtain ⟨C, dx, fvs, i0, ic, e1, e2, q⟩ := r; exact ⟨C, dx, fvs, i0, ic, e1, e2, ap _ _ q⟩
              · have hn' : n = h.length := by
                  have := (List.getElem?_eq_some_iff.mp z).1
                  simp at this
                  omega
                subst hn'
                rw [List.getElem?_append_right (Nat.le_refl _)] at z
                simp at z
                subst z
                refine ⟨D0, ?_, va, hD, ap _ _ ra⟩
                show (S.μ ++ [D0])[h.length]? = _
                rw [List.getElem?_append_right (by rw [s.len]; exact Nat.le_refl _), s.len]
                simp
          refine q (.ref D0) S2 H e12 s2 ⟨D0, ?_, rfl⟩
          show (S.μ ++ [D0])[h.length]? = _
          rw [List.getElem?_append_right (by rw [s.len]; exact Nat.le_refl _), s.len]
          simp
      · exact (q : False).elim
end
end R
namespace R
open PySem PySem.Spec PyProof.Rows L2

section
variable {X : Cx} {E : XK} {pos p : Pos} {vs : List Nat}
theorem cok_blk {s : Shared} {H : Hp} {scope : Scope} {cenv : Env} {fp : List Addr} (c : Cok X E) : Cok (X.blk s H scope cenv fp) E0 :=
  ⟨c.calm, c.nd, passL, takes0, PassesOwn.never⟩
theorem re_lc (fz : Bool) {elt tg iter : Expr} {ifs : List Expr} {scope : Scope} {own : List (Str × Nat)} {mi : IM} {gm : GM} {tm : TM} {em : EM} (c : Cok X E) (hi : RI X E tg iter mi) (ok : BlkOk X.N X.env.scope scope own)
    (hg : ∀ (s : Shared) (H : Hp) (C : Addr) (cl : List (Str × Addr)) (fp : List Addr), RG (X.blk s H scope (compEnvC scope cl C X.env) fp) E0 (own.map (·.2)) tg gm)
    (ht : ∀ (s : Shared) (H : Hp) (C : Addr) (cl : List (Str × Addr)) (fp : List Addr), RTs (X.blk s H scope (compEnvC scope cl C X.env) fp) E0 ifs tm)
    (he : ∀ (s : Shared) (H : Hp) (C : Addr) (cl : List (Str × Addr)) (fp : List Addr), RE (X.blk s H scope (compEnvC scope cl C X.env) fp) E0 elt em) (hs : ∀ x, foldedSetIterable iter X.env x = pure x := by intro _; rfl) :
    RE X E (.ListComp elt [⟨tg, iter, ifs, 0⟩] scope pos) (eLC fz mi gm tm em (own.map (·.2))) :=
  PE.weak (pe_lc (g := tGt X.K X.mg E0 (own.map (fun x : Str × Nat => x.2)) gm) (tt := tG X.K X.mg E0 relEq tm) (te := tG X.K X.mg E0 (Rep X.K X.mg) em) c.calm c.nd hi ok hg ht he hs) fun σ H Q ⟨S, ρ, h, sim, env, q⟩ => lc_read sim env q
/-- name = [..] on one line, the name a plain local -/
theorem rs_setLc (fz : Bool) (i : Nat) {y : Str} {py spos : Pos} {elt tg iter : Expr} {ifs : List Expr} {scope : Scope} {own : List (Str × Nat)} {mi : IM} {gm : GM} {tm : TM} {em : EM} (c : Cok X E) (hi : RI X E tg iter mi) (ok : BlkOk X.N X.env.scope scope own)
    (hg : ∀ (s : Shared) (H : Hp) (C : Addr) (cl : List (Str × Addr)) (fp : List Addr), RG (X.blk s H scope (compEnvC scope cl C X.env) fp) E0 (own.map (·.2)) tg gm)
    (ht : ∀ (s : Shared) (H : Hp) (C : Addr) (cl : List (Str × Addr)) (fp : List Addr), RTs (X.blk s H scope (compEnvC scope cl C X.env) fp) E0 ifs tm)
    (he : ∀ (s : Shared) (H : Hp) (C : Addr) (cl : List (Str × Addr)) (fp : List Addr), RE (X.blk s H scope (compEnvC scope cl C X.env) fp) E0 elt em)
    (hy : X.N[i]? = some y := by rfl) (hyl : X.env.scope.names.lookup y = some .local := by rfl) (hsw : swapsWith (.ListComp elt [⟨tg, iter, ifs, 0⟩] scope pos) (some (.Name y py)) spos.line X.env = pure true := by exact sw_true rfl rfl rfl (by decide +kernel))
    (hs : ∀ x, foldedSetIterable iter X.env x = pure x := by intro _; rfl) :
    RS X E (.Assign [.Name y py] (.ListComp elt [⟨tg, iter, ifs, 0⟩] scope pos) spos) (sSet i (eLC fz mi gm tm em (own.map (·.2)))) :=
  PS.weak (ps_setLc (g := tGt X.K X.mg E0 (own.map (fun x : Str × Nat => x.2)) gm) (tt := tG X.K X.mg E0 relEq tm) (te := tG X.K X.mg E0 (Rep X.K X.mg) em) c.calm c.nd hy hyl hsw hi ok hg ht he hs) fun D σ H ⟨S, ρ, h, sim, env, q⟩ =>
    lc_read (Q := fun x H1 => D.nx (σ.set i (some x)) H1) sim env (Post.seq q fun x S1 H1 h1 dx e1 s1 r1 q1 => Post.get (b := VF.nx (σ.set i (some x))) (Q := endQ D) q1 s1 ((env.mono sim e1).set r1))
end

/-! ### methods of built-in types -/
def tyM (T : Ty) (h : PH) (d : D) : Bool := match T with
  | .str => (match d with | .str _ => true | _ => false)
  | .lst => (getL h d).isSome
  | .dct => (match d with | .loc n => (match h[n]? with | some (.dct _) => true | _ => false) | _ => false)
  | .tup => (match d with | .tup _ => true | _ => false)
  | _ => false
def eBM (T : Ty) (f : D → List D → PH → Out D) (o : EM) (a : AM) (ρ : Rho) (h : PH) : Out D := (o ρ h).bind fun d h1 => if tyM T h1 d then (a ρ h1).bind fun ds h2 => f d ds h2 else .stuck
def eBM0 (T : Ty) (f : D → List D → PH → Out D) (o : EM) (ρ : Rho) (h : PH) : Out D := (o ρ h).bind fun d h1 => if tyM T h1 d then f d [] h1 else .stuck
def MtS (K : PySem.W.Frag) (mg : Str → Option Value) (E : XK) (r : V → List V → Hp → VK → Prop) (f : D → List D → PH → Out D) : Prop :=
  ∀ S H h x xs d ds Q, Sim K mg S H h → Rep K mg S H d x → Reps K mg S H ds xs → Post K mg E (Rep K mg) S H (f d ds h) Q → r x xs H Q
def onL (d : D) (h : PH) (f : List D → Option (D × List D)) : Out D := match d with
  | .loc n => match h[n]? with
    | some (.lst ds) => match f ds with
      | some (r, es) => .ok r (h.set n (.lst es))
      | none => .stuck
    | _ => .stuck
  | _ => .stuck
def fAppend (d : D) (as : List D) (h : PH) : Out D := match as with
  | [y] => onL d h fun ds => if ds.length < sizeLine then some (.non, ds ++ [y]) else none
  | _ => .stuck
def fInsert (d : D) (as : List D) (h : PH) : Out D := match as with
  | [.int i, y] => onL d h fun ds => if ds.length < sizeLine ∧ 0 ≤ i ∧ i < 2 ^ 63 then some (.non, ds.take i.toNat ++ [y] ++ ds.drop i.toNat) else none
  | _ => .stuck
def fExtend (d : D) (as : List D) (h : PH) : Out D := match as with
  | [y] => match getLx h y with
    | some es => onL d h fun ds => if sizeOk (ds.length + es.length) then some (.non, ds ++ es) else none
    | none => .stuck
  | _ => .stuck
def fClear (d : D) (as : List D) (h : PH) : Out D := match as with
  | [] => onL d h fun _ => some (.non, [])
  | _ => .stuck
def fReverse (d : D) (as : List D) (h : PH) : Out D := match as with
  | [] => onL d h fun ds => some (.non, ds.reverse)
  | _ => .stuck
def fPop (d : D) (as : List D) (h : PH) : Out D := match as with
  | [] => onL d h fun ds => (ds[ds.length - 1]?).map fun y => (y, ds.dropLast)
  | _ => .stuck
section
variable {K : PySem.W.Frag} {mg : Str → Option Value} {E : XK} {X : Cx} {S S1 : Sx} {H H1 : Hp} {h h1 : PH} {ρ : Rho} {σ : L2.St} {d : D} {v : V} {ds es : List D} {vs ws : List V} {Q : VK}
/-- the value is of that built-in type, its attributes the type's alone -/
def tyW (K : PySem.W.Frag) (T : String) (x : V) (H : Hp) : Prop := tyV K T x H ∨ (T = "tuple" ∧ ∃ p xs, x = .ref p ∧ TupZ H p xs)
theorem tyW_is {X : Cx} {pins : List (Addr × Obj)} {σ : L2.St} {H : Hp} {s : Shared} {T : String} {x : V} {v : Value} (I : Inv X pins σ H s) (r : RelV x v) (ty : tyW X.K T x H) : s.TypeIs v T ∧ ∀ a, v = .ref a → ∃ ob, s.heap.get? a = some ob ∧ ob.dict = none := by
  rcases ty with ty | ⟨rfl, p, xs, rfl, t⟩
  · exact tyV_is I r ty
  · obtain ⟨o, e, c, d⟩ := Inv.tupZ_dict I t
    cases r
    exact ⟨⟨o, e, c⟩, fun a q => by cases q; exact ⟨o, e, d⟩⟩
def tBM0W (K : PySem.W.Frag) (T : String) (r : V → List V → Hp → VK → Prop) (to : TE) : TE := fun σ H Q => to σ H fun x H1 => tyW K T x H1 ∧ r x [] H1 Q
def tBMW (K : PySem.W.Frag) (T : String) (r : V → List V → Hp → VK → Prop) (to : TE) (t : TA) : TE := fun σ H Q => to σ H fun x H1 => tyW K T x H1 ∧ t σ H1 fun xs H2 => r x xs H2 Q
theorem pe_bm0W {X : Cx} {o : Expr} {to : TE} {name : Str} {apos cpos : Pos} {T id : String} {r : V → List V → Hp → VK → Prop} (pa : PlainAttrs T) (slot : Slot T name id) (hty : typeOf (.builtin id) = pure (.type "method_descriptor")) (hm : MtR X id r) (ho : PE X o to)
    (hbase : attributeBase o name X.env (eval o X.env) = eval o X.env := by rfl) (hline : (apos.endLine == cpos.line) = true := by rfl) : PE X (.Call (.Attribute o name apos) [] [] cpos) (tBM0W X.K T r to) :=
  ⟨fun pins s σ H Q I h => wpAny_Call_method0_late hbase hline (thn (ho.run pins s σ H _ I h) fun v s1 ⟨x, H1, I1, r1, ty, q1⟩ =>
    let ⟨h1, h2⟩ := tyW_is I1 r1 ty
    ⟨T, id, pa, slot, hty, h1, h2, Calls.callWith_builtin rfl (PySem.evalArgs_none (hm pins s1 σ H1 x [] v [] Q I1 r1 .nil q1))⟩)⟩
theorem pe_bmW {X : Cx} {o e : Expr} {es : List Expr} {to : TE} {t : TA} {name : Str} {apos cpos : Pos} {T id : String} {r : V → List V → Hp → VK → Prop} (pa : PlainAttrs T) (slot : Slot T name id) (hty : typeOf (.builtin id) = pure (.type "method_descriptor")) (hm : MtR X id r) (ho : PE X o to) (ha : PA X (e :: es) t)
    (hbase : attributeBase o name X.env (eval o X.env) = eval o X.env := by rfl)
    (hfew : ((backTo cpos (starEach (e :: es) X.env)).all (fun x => !x.1) && (backToKw cpos (keywordEach [] X.env)).all (fun x => x.1.isSome)
      && decide ((e :: es).length + ([] : List Keyword).length + (if ([] : List Keyword).isEmpty then 0 else 1) < 30)) = true := by rfl)
    (hline : (apos.endLine == cpos.line) = true := by rfl) (hs : starEach (e :: es) X.env = (false, eval e X.env) :: starEach es X.env := by rfl) (hplain : (backTo cpos (starEach es X.env)).any (·.1) = false := by rfl) :
    PE X (.Call (.Attribute o name apos) (e :: es) [] cpos) (tBMW X.K T r to t) :=
  ⟨fun pins s σ H Q I h => wpAny_Call_method_late hbase hfew hline rfl (thn (ho.run pins s σ H _ I h) fun v s1 ⟨x, H1, I1, r1, ty, q1⟩ => by
    obtain ⟨h1, h2⟩ := tyW_is I1 r1 ty
    have hA := ha.run cpos pins s1 σ H1 _ I1 q1
    rw [hs] at hA ⊢
    exact ⟨T, id, pa, slot, hty, h1, h2, Calls.callWith_builtin (by show (false || (backTo cpos (starEach es X.env)).any (·.1)) = false; rw [hplain] <;> rfl) (Calls.evalArgs_plain (thn hA fun us s2 ⟨vs, H2, I2, r2, q2⟩ => hm pins s2 σ H2 x vs v us Q I2 r1 r2 q2))⟩)⟩
theorem tyM_ok {T : Ty} (sim : Sim K mg S H h) (r : Rep K mg S H d v) (e : tyM T h d = true) : tyW K T.name v H := by
  cases T with
  | tup =>
    cases d with
    | tup ds => obtain ⟨a, vs, rfl, t, _⟩ := r; exact .inr ⟨rfl, a, vs, rfl, t⟩
    | _ => cases e
  | str =>
    cases d with
    | str x => cases r; exact .inl rfl
    | _ => cases e
  | lst =>
    have e : (getL h d).isSome = true := e
    obtain ⟨xs, e2⟩ := Option.isSome_iff_exists.mp e
    obtain ⟨a, ws, rfl, t, _⟩ := getL_ok sim r e2
    exact .inl (.inl ⟨rfl, ws, t⟩)
  | dct =>
    cases d with
    | loc n =>
      obtain ⟨a, ha, rfl⟩ := r
      simp only [tyM] at e
      split at e
      · rename_i kvs eh
        obtain ⟨b, hb, hO⟩ := sim.obj n _ eh
        rw [ha] at hb
        cases hb
        obtain ⟨kws, e1, _⟩ := hO
        exact .inl (.inr (.inr (.inl ⟨rfl, .inl ⟨kws, e1⟩⟩)))
      · cases e
    | _ => cases e
  | _ => cases e
theorem re_bm {o e : Expr} {es : List Expr} {mo : EM} {mas : AM} {name : Str} {apos cpos : Pos} {id : String} {r : V → List V → Hp → VK → Prop} {f : D → List D → PH → Out D} (T : Ty) (pa : PlainAttrs T.name) (slot : Slot T.name name id) (hty : typeOf (.builtin id) = pure (.type "method_descriptor")) (hm : MtR X id r) (hf : MtS X.K X.mg E r f) (ho : RE X E o mo) (ha : RA X E (e :: es) mas)
    (hbase : attributeBase o name X.env (eval o X.env) = eval o X.env := by rfl)
    (hfew : ((backTo cpos (starEach (e :: es) X.env)).all (fun x => !x.1) && (backToKw cpos (keywordEach [] X.env)).all (fun x => x.1.isSome)
      && decide ((e :: es).length + ([] : List Keyword).length + (if ([] : List Keyword).isEmpty then 0 else 1) < 30)) = true := by rfl)
    (hline : (apos.endLine == cpos.line) = true := by rfl) (hs : starEach (e :: es) X.env = (false, eval e X.env) :: starEach es X.env := by rfl) (hplain : (backTo cpos (starEach es X.env)).any (·.1) = false := by rfl) :
    RE X E (.Call (.Attribute o name apos) (e :: es) [] cpos) (eBM T f mo mas) :=
  PE.weak (pe_bmW pa slot hty hm ho ha hbase hfew hline hs hplain) fun σ H Q ⟨S, ρ, h, sim, env, q⟩ => tG_seq sim env q fun x S1 H1 h1 dx e1 s1 r1 env1 q1 => by
    split at q1
    · rename_i ht
      exact ⟨tyM_ok s1 r1 ht, tG_seq s1 env1 q1 fun y S2 H2 h2 dy e2 s2 r2 env2 q2 => hf S2 H2 h2 x y dx dy Q s2 (Rep.mono s1 e2 _ _ r1) r2 q2⟩
    · exact q1.elim
theorem re_bm0 {o : Expr} {mo : EM} {name : Str} {apos cpos : Pos} {id : String} {r : V → List V → Hp → VK → Prop} {f : D → List D → PH → Out D} (T : Ty) (pa : PlainAttrs T.name) (slot : Slot T.name name id) (hty : typeOf (.builtin id) = pure (.type "method_descriptor")) (hm : MtR X id r) (hf : MtS X.K X.mg E r f) (ho : RE X E o mo)
    (hbase : attributeBase o name X.env (eval o X.env) = eval o X.env := by rfl) (hline : (apos.endLine == cpos.line) = true := by rfl) :
    RE X E (.Call (.Attribute o name apos) [] [] cpos) (eBM0 T f mo) :=
  PE.weak (pe_bm0W pa slot hty hm ho hbase hline) fun σ H Q ⟨S, ρ, h, sim, env, q⟩ => tG_seq sim env q fun x S1 H1 h1 dx e1 s1 r1 env1 q1 => by
    split at q1
    · rename_i ht
      exact ⟨tyM_ok s1 r1 ht, hf S1 H1 h1 x [] dx [] Q s1 r1 rfl q1⟩
    · exact q1.elim
/-- the tracked list at d is written -/
theorem onL_ok {f : List D → Option (D × List D)} (sim : Sim K mg S H h) (r : Rep K mg S H d v) (q : Post K mg E (Rep K mg) S H (onL d h f) Q) :
    ∃ n a ds vs rv es, d = .loc n ∧ v = .ref a ∧ H a = some (.lst vs) ∧ Reps K mg S H ds vs ∧ f ds = some (rv, es) ∧ ∀ ws (x : V), Rep K mg S H rv x → Reps K mg S H es ws → Q x (upd H a (.lst ws)) := by
  unfold onL at q
  split at q
  · rename_i n
    split at q
    · rename_i xs eh
      split at q
      · rename_i rv es ef
        obtain ⟨a, ha, rfl⟩ := r
        obtain ⟨b, hb, hO⟩ := sim.obj n _ eh
        rw [ha] at hb
        cases hb
        obtain ⟨vs, e1, rs⟩ := hO
        refine ⟨n, a, xs, vs, rv, es, rfl, rfl, e1, rs, ef, fun ws x rx rw' => ?_⟩
        have hm : a ∈ S.μ := List.mem_of_getElem? ha
        have ew : Ext S H S (upd H a (.lst ws)) := Ext.write hm
        exact q x S _ ew (sim.write ha ⟨ws, upd_same, Reps.mono sim ew _ _ rw'⟩) (Rep.mono sim ew _ _ rx)
      · exact q.elim
    · exact q.elim
  · exact q.elim
theorem ms_append : MtS K mg E rAppend fAppend := fun S H h x xs d ds Q sim r rs q => by
  unfold fAppend at q
  split at q
  · obtain ⟨y, rfl, ry⟩ := rs.one_inv
    obtain ⟨n, a, zs, ws, rv, es, rfl, rfl, t, rz, ef, k⟩ := onL_ok sim r q
    split at ef
    · rename_i hz
      cases ef
      exact ⟨a, ws, y, rfl, rfl, t, by rw [rz.length]; exact hz, k _ V.non rfl (rz.append (Reps.one ry))⟩
    · cases ef
  · exact q.elim
def rInsertA : V → List V → Hp → VK → Prop := fun x vs H Q => ∃ (l : Addr) (xs : List V) (i : Int) (y : V), x = .ref l ∧ vs = [.int i, y] ∧ H l = some (.lst xs) ∧ xs.length < sizeLine ∧ 0 ≤ i ∧ i < 2 ^ 63 ∧ Q .non (upd H l (.lst (xs.take i.toNat ++ [y] ++ xs.drop i.toNat)))
theorem ms_insert : MtS K mg E rInsertA fInsert := fun S H h x xs d ds Q sim r rs q => by
  unfold fInsert at q
  split at q
  · rename_i i y'
    obtain ⟨u, y, rfl, ru, ry⟩ := rs.two_inv
    have ru : u = .int i := ru
    subst ru
    obtain ⟨n, a, zs, ws, rv, es, rfl, rfl, t, rz, ef, k⟩ := onL_ok sim r q
    split at ef
    · rename_i hz
      cases ef
      exact ⟨a, ws, i, y, rfl, rfl, t, by rw [rz.length]; exact hz.1, hz.2.1, hz.2.2, k _ V.non rfl (((rz.take _).append (Reps.one ry)).append (rz.drop _))⟩
    · cases ef
  · exact q.elim
theorem ms_extend : MtS K mg E rExtend fExtend := fun S H h x xs d ds Q sim r rs q => by
  unfold fExtend at q
  split at q
  · obtain ⟨y, rfl, ry⟩ := rs.one_inv
    split at q
    · rename_i es2 e2
      obtain ⟨b, ys, rfl, t2, r2⟩ := getLx_ok sim ry e2
      obtain ⟨n, a, zs, ws, rv, es, rfl, rfl, t, rz, ef, k⟩ := onL_ok sim r q
      split at ef
      · rename_i hz
        cases ef
        exact ⟨a, b, ws, ys, rfl, rfl, t, t2, by rw [rz.length, r2.length]; exact sizeOk_le hz, k _ V.non rfl (rz.append r2)⟩
      · cases ef
    · exact q.elim
  · exact q.elim
theorem ms_clear : MtS K mg E rClear fClear := fun S H h x xs d ds Q sim r rs q => by
  unfold fClear at q
  split at q
  · have rs : xs = [] := rs
    subst rs
    obtain ⟨n, a, zs, ws, rv, es, rfl, rfl, t, rz, ef, k⟩ := onL_ok sim r q
    cases ef
    exact ⟨a, ws, rfl, rfl, t, k _ V.non rfl rfl⟩
  · exact q.elim
theorem ms_reverse : MtS K mg E rReverse fReverse := fun S H h x xs d ds Q sim r rs q => by
  unfold fReverse at q
  split at q
  · have rs : xs = [] := rs
    subst rs
    obtain ⟨n, a, zs, ws, rv, es, rfl, rfl, t, rz, ef, k⟩ := onL_ok sim r q
    cases ef
    exact ⟨a, ws, rfl, rfl, t, k _ V.non rfl rz.reverse⟩
  · exact q.elim
theorem ms_pop : MtS K mg E rPop fPop := fun S H h x xs d ds Q sim r rs q => by
  unfold fPop at q
  split at q
  · have rs : xs = [] := rs
    subst rs
    obtain ⟨n, a, zs, ws, rv, es, rfl, rfl, t, rz, ef, k⟩ := onL_ok sim r q
    obtain ⟨y, e1, e2⟩ := Option.map_eq_some_iff.mp ef
    cases e2
    obtain ⟨w, g, rw'⟩ := rz.get e1
    refine ⟨a, ws, w, rfl, rfl, t, by rw [rz.length]; exact g, k _ w rw' ?_⟩
    rw [List.dropLast_eq_take, List.dropLast_eq_take, rz.length]
    exact rz.take _
  · exact q.elim
end

/-! ### defs -/
def fnM (np n : Nat) (body : SM) (ds : List D) (h : PH) : Out D := if ds.length = np then (match body (ds.map some ++ List.replicate (n - np) none) h with
  | .ok (.nx _) h' => .ok .non h'
  | .ok (.rt d) h' => .ok d h'
  | .exc e h' => .exc e h'
  | _ => .stuck) else .stuck
def snapF (h : PH) : Nat → D → Option D
  | 0, _ => none
  | k + 1, .tup ds => (optAll (snapF h k) ds).map .tup
  | k + 1, .lst .cst ds => (optAll (snapF h k) ds).map (.lst .cst)
  | k + 1, .lst .own ds => (optAll (snapF h k) ds).map (.lst .bor)
  | k + 1, .lst .bor ds => (optAll (snapF h k) ds).map (.lst .bor)
  | k + 1, .loc n => match h[n]? with
    | some (.lst ds) => (optAll (snapF h k) ds).map (.lst .bor)
    | _ => none
  | _ + 1, .oth _ => some (.oth false)
  | _ + 1, d => some d
def resF (h : PH) : Nat → D → Option D
  | 0, _ => none
  | k + 1, .tup ds => (optAll (resF h k) ds).map .tup
  | k + 1, .lst .own ds => (optAll (resF h k) ds).map (.lst .own)
  | _ + 1, .lst _ _ => none
  | k + 1, .loc n => match h[n]? with
    | some (.lst ds) => (optAll (resF h k) ds).map (.lst .own)
    | _ => none
  | _ + 1, .oth b => if b then some (.oth true) else none
  | _ + 1, d => some d
inductive Res where
  | ok (d : D) | exc (e : Ex) | stuck
def fnP (np n : Nat) (body : SM) : List D → Res := fun ds => match fnM np n body ds [] with
  | .ok d h => (match resF h 16 d with
    | some d' => .ok d'
    | none => .stuck)
  | .exc e _ => .exc e
  | .stuck => .stuck
def eCallM (m : List D → PH → Out D) (a : AM) (ρ : Rho) (h : PH) : Out D := (a ρ h).bind m
def runP (m : List D → Res) (ds : List D) (h : PH) : Out D := match optAll (snapF h 16) ds with
  | some es => (match m es with
    | .ok d => .ok d h
    | .exc e => .exc e h
    | .stuck => .stuck)
  | none => .stuck
def eCallP (m : List D → Res) (a : AM) (ρ : Rho) (h : PH) : Out D := (a ρ h).bind (runP m)
mutual
def noLst : D → Bool
  | .tup ds => noLsts ds
  | .lst _ _ => false
  | .loc _ => false
  | .oth _ => false
  | _ => true
def noLsts : List D → Bool
  | [] => true
  | d :: ds => noLst d && noLsts ds
end
/-- the new list that a def hands out, to be changed -/
def runT (m : List D → Res) (ds : List D) (h : PH) : Out D := match optAll (snapF h 16) ds with
  | some es => (match m es with
    | .ok (.lst .own xs) => if noLsts xs then .ok (.loc h.length) (h ++ [.lst xs]) else .stuck
    | .exc e => .exc e h
    | _ => .stuck)
  | none => .stuck
def eCallT (m : List D → Res) (a : AM) (ρ : Rho) (h : PH) : Out D := (a ρ h).bind (runT m)
section
variable (K : PySem.W.Frag) (mg : Str → Option Value)
def spM (m : List D → PH → Out D) (n : Nat) : Sp := fun vs H Q E => vs.length = n ∧ ∃ S h ds, Sim K mg S H h ∧ Reps K mg S H ds vs ∧ Post K mg E (Rep K mg) S H (m ds h) Q
def Sx.entry (H : Hp) : Sx := ⟨fun a => H a ≠ none, fun a => H a ≠ none, []⟩
def Sx.back (H : Hp) : Sx := ⟨fun _ => False, fun a => H a ≠ none, []⟩
def postP (E : XK) (H : Hp) (r : Res) (Q : VK) : Prop := match r with
  | .ok d => ∀ v H', (∀ a o, H a = some o → H' a = some o) → Rep K mg (Sx.back H) H' d v → Q v H'
  | .exc e => ∀ H', (∀ a o, H a = some o → H' a = some o) → ExcW mg E e H'
  | .stuck => False
def spP (m : List D → Res) (n : Nat) : Sp := fun vs H Q E => vs.length = n ∧ ∃ ds, Reps K mg (Sx.entry H) H ds vs ∧ postP K mg E H (m ds) Q
end
section
variable {K : PySem.W.Frag} {mg : Str → Option Value} {E : XK} {S S1 : Sx} {H H1 H' : Hp} {h h1 h' : PH} {ρ : Rho} {σ : L2.St} {d : D} {v : V} {ds es : List D} {vs ws : List V} {Q : VK}
theorem snaps_ok {k : Nat} (ih : ∀ d d' v, snapF h k d = some d' → Rep K mg S H d v → Rep K mg (Sx.entry H) H d' v) : ∀ {ds es : List D} {vs : List V}, optAll (snapF h k) ds = some es → Reps K mg S H ds vs → Reps K mg (Sx.entry H) H es vs
  | [], es, vs, e, r => by
    cases e
    have r : vs = [] := r
    subst r
    exact rfl
  | d :: ds, es, vs, e, r => by
    obtain ⟨b, cs, rfl, e1, e2⟩ := optAll_cons e
    obtain ⟨v, r', rfl, q, t⟩ := r
    exact ⟨v, r', rfl, ih _ _ _ e1 q, snaps_ok ih e2 t⟩
theorem snap_ok (sim : Sim K mg S H h) : ∀ (k : Nat) (d d' : D) (v : V), snapF h k d = some d' → Rep K mg S H d v → Rep K mg (Sx.entry H) H d' v
  | 0, _, _, _, e, _ => by cases e
  | k + 1, .tup ds, d', v, e, r => by
    obtain ⟨es, e1, rfl⟩ := Option.map_eq_some_iff.mp e
    obtain ⟨a, vs, rfl, t, q⟩ := r
    exact ⟨a, vs, rfl, t, snaps_ok (fun d d' v => snap_ok sim k d d' v) e1 q⟩
  | k + 1, .lst .cst ds, d', v, e, r => by
    obtain ⟨es, e1, rfl⟩ := Option.map_eq_some_iff.mp e
    obtain ⟨a, vs, rfl, t, q⟩ := r
    exact ⟨a, vs, rfl, t.imp id fun z => z.imp id fun z => ⟨z.1, by show H a ≠ none; rw [z.1]; simp⟩, snaps_ok (fun d d' v => snap_ok sim k d d' v) e1 q⟩
  | k + 1, .lst .own ds, d', v, e, r => by
    obtain ⟨es, e1, rfl⟩ := Option.map_eq_some_iff.mp e
    obtain ⟨a, vs, rfl, t, q⟩ := r
    exact ⟨a, vs, rfl, ⟨t.1, by show H a ≠ none; rw [t.1]; simp⟩, snaps_ok (fun d d' v => snap_ok sim k d d' v) e1 q⟩
  | k + 1, .lst .bor ds, d', v, e, r => by
    obtain ⟨es, e1, rfl⟩ := Option.map_eq_some_iff.mp e
    obtain ⟨a, vs, rfl, t, q⟩ := r
    exact ⟨a, vs, rfl, ⟨t.1, by show H a ≠ none; rw [t.1]; simp⟩, snaps_ok (fun d d' v => snap_ok sim k d d' v) e1 q⟩
  | k + 1, .loc n, d', v, e, r => by
    simp only [snapF] at e
    split at e
    · rename_i xs eh
      obtain ⟨es, e1, rfl⟩ := Option.map_eq_some_iff.mp e
      obtain ⟨a, ha, rfl⟩ := r
      obtain ⟨b, hb, hO⟩ := sim.obj n _ eh
      rw [ha] at hb
      cases hb
      obtain ⟨vs, t, q⟩ := hO
      exact ⟨a, vs, rfl, ⟨t, by show H a ≠ none; rw [t]; simp⟩, snaps_ok (fun d d' v => snap_ok sim k d d' v) e1 q⟩
    · cases e
  | k + 1, .non, d', v, e, r => by cases e; exact r
  | k + 1, .bl b, d', v, e, r => by cases e; exact r
  | k + 1, .int i, d', v, e, r => by cases e; exact r
  | k + 1, .str x, d', v, e, r => by cases e; exact r
  | k + 1, .gl x, d', v, e, r => by cases e; exact r
  | k + 1, .ty x, d', v, e, r => by cases e; exact r
  | k + 1, .exn x, d', v, e, r => by cases e; exact r
  | k + 1, .oth b, d', v, e, r => by
    cases e
    obtain ⟨a, kws, rfl, t, q⟩ := r
    exact ⟨a, kws, rfl, t, by show H a ≠ none; rw [t]; simp⟩
theorem ress_ok {k : Nat} (ih : ∀ d d' v, resF h k d = some d' → Rep K mg S1 H1 d v → Rep K mg (Sx.back H) H1 d' v) : ∀ {ds es : List D} {vs : List V}, optAll (resF h k) ds = some es → Reps K mg S1 H1 ds vs → Reps K mg (Sx.back H) H1 es vs
  | [], es, vs, e, r => by
    cases e
    have r : vs = [] := r
    subst r
    exact rfl
  | d :: ds, es, vs, e, r => by
    obtain ⟨b, cs, rfl, e1, e2⟩ := optAll_cons e
    obtain ⟨v, r', rfl, q, t⟩ := r
    exact ⟨v, r', rfl, ih _ _ _ e1 q, ress_ok ih e2 t⟩
theorem res_ok (e0 : Ext (Sx.entry H) H S1 H1) (sim : Sim K mg S1 H1 h) : ∀ (k : Nat) (d d' : D) (v : V), resF h k d = some d' → Rep K mg S1 H1 d v → Rep K mg (Sx.back H) H1 d' v
  | 0, _, _, _, e, _ => by cases e
  | k + 1, .tup ds, d', v, e, r => by
    obtain ⟨es, e1, rfl⟩ := Option.map_eq_some_iff.mp e
    obtain ⟨a, vs, rfl, t, q⟩ := r
    exact ⟨a, vs, rfl, t, ress_ok (fun d d' v => res_ok e0 sim k d d' v) e1 q⟩
  | k + 1, .lst .own ds, d', v, e, r => by
    obtain ⟨es, e1, rfl⟩ := Option.map_eq_some_iff.mp e
    obtain ⟨a, vs, rfl, t, q⟩ := r
    exact ⟨a, vs, rfl, ⟨t.1, fun z => t.2 (e0.fm a z)⟩, ress_ok (fun d d' v => res_ok e0 sim k d d' v) e1 q⟩
  | k + 1, .lst .cst ds, d', v, e, r => by cases e
  | k + 1, .lst .bor ds, d', v, e, r => by cases e
  | k + 1, .loc n, d', v, e, r => by
    simp only [resF] at e
    split at e
    · rename_i xs eh
      obtain ⟨es, e1, rfl⟩ := Option.map_eq_some_iff.mp e
      obtain ⟨a, ha, rfl⟩ := r
      obtain ⟨b, hb, hO⟩ := sim.obj n _ eh
      rw [ha] at hb
      cases hb
      obtain ⟨vs, t, q⟩ := hO
      obtain ⟨ν, hν, hn⟩ := e0.mu
      have hm : a ∈ ν := by
        have := List.mem_of_getElem? ha
        rw [hν] at this
        simpa [Sx.entry] using this
      exact ⟨a, vs, rfl, ⟨t, fun z => z (hn a hm)⟩, ress_ok (fun d d' v => res_ok e0 sim k d d' v) e1 q⟩
    · cases e
  | k + 1, .non, d', v, e, r => by cases e; exact r
  | k + 1, .bl b, d', v, e, r => by cases e; exact r
  | k + 1, .int i, d', v, e, r => by cases e; exact r
  | k + 1, .str x, d', v, e, r => by cases e; exact r
  | k + 1, .gl x, d', v, e, r => by cases e; exact r
  | k + 1, .ty x, d', v, e, r => by cases e; exact r
  | k + 1, .exn x, d', v, e, r => by cases e; exact r
  | k + 1, .oth true, d', v, e, r => by
    cases e
    obtain ⟨a, kws, rfl, t, q⟩ := r
    exact ⟨a, kws, rfl, t, fun z => (show ¬ S1.F a from q) (e0.fm a z)⟩
  | k + 1, .oth false, d', v, e, r => by cases e
theorem sim_entry : Sim K mg (Sx.entry H) H [] := ⟨rfl, List.nodup_nil, fun a h => (by cases h), fun a h => (by cases h), fun a h => h, fun a h => h, fun n o h => (by simp at h)⟩
mutual
/-- what a def handed back, for its caller -/
theorem Rep.ofBack (sim : Sim K mg S H h) : ∀ (d : D) (v : V), Rep K mg (Sx.back H) H' d v → Rep K mg S H' d v
  | .non, _, r => r
  | .bl _, _, r => r
  | .int _, _, r => r
  | .str _, _, r => r
  | .tup ds, v, r => by
    obtain ⟨a, vs, rfl, t, q⟩ := r
    exact ⟨a, vs, rfl, t, Reps.ofBack sim ds vs q⟩
  | .lst g ds, v, r => by
    obtain ⟨a, vs, rfl, t, q⟩ := r
    refine ⟨a, vs, rfl, ?_, Reps.ofBack sim ds vs q⟩
    cases g with
    | own => exact ⟨t.1, fun z => t.2 (sim.fn a z)⟩
    | bor => exact t.2.elim
    | cst => exact t.imp id fun z => z.imp id fun z => z.2.elim
  | .loc n, v, r => by
    obtain ⟨a, t, rfl⟩ := r
    simp [Sx.back] at t
  | .gl _, _, r => r
  | .ty _, _, r => r
  | .exn _, _, r => r
  | .oth true, _, r => by
    obtain ⟨a, kws, rfl, t, q⟩ := r
    exact ⟨a, kws, rfl, t, fun z => (show ¬ (H a ≠ none) from q) (sim.fn a z)⟩
  | .oth false, _, r => by
    obtain ⟨a, kws, rfl, t, q⟩ := r
    exact (show False from q).elim
theorem Reps.ofBack (sim : Sim K mg S H h) : ∀ (ds : List D) (vs : List V), Reps K mg (Sx.back H) H' ds vs → Reps K mg S H' ds vs
  | [], _, r => r
  | d :: ds, vs, r => by
    obtain ⟨v, r', rfl, q, t⟩ := r
    exact ⟨v, r', rfl, Rep.ofBack sim d v q, Reps.ofBack sim ds r' t⟩
end
mutual
theorem Rep.noLst {S2 : Sx} : ∀ (d : D) (v : V), noLst d = true → Rep K mg S H' d v → Rep K mg S2 H' d v
  | .non, _, _, r => r
  | .bl _, _, _, r => r
  | .int _, _, _, r => r
  | .str _, _, _, r => r
  | .tup ds, v, e, r => by
    obtain ⟨a, vs, rfl, t, q⟩ := r
    exact ⟨a, vs, rfl, t, Reps.noLst ds vs (by simpa [R.noLst] using e) q⟩
  | .lst g ds, v, e, r => by simp [R.noLst] at e
  | .loc n, v, e, r => by simp [R.noLst] at e
  | .gl _, _, _, r => r
  | .ty _, _, _, r => r
  | .exn _, _, _, r => r
  | .oth _, _, e, r => by simp [R.noLst] at e
theorem Reps.noLst {S2 : Sx} : ∀ (ds : List D) (vs : List V), noLsts ds = true → Reps K mg S H' ds vs → Reps K mg S2 H' ds vs
  | [], _, _, r => r
  | d :: ds, vs, e, r => by
    obtain ⟨v, r', rfl, q, t⟩ := r
    simp only [noLsts, Bool.and_eq_true] at e
    exact ⟨v, r', rfl, Rep.noLst d v e.1 q, Reps.noLst ds r' e.2 t⟩
end
theorem env_start {N : List Str} {np : Nat} (r : Reps K mg S H ds vs) (hl : ds.length = np) : EnvR K mg S H (ds.map some ++ List.replicate (N.length - np) none) (L2.start N vs) := by
  have hv := r.length
  refine ⟨by simp [L2.start, hv, hl], fun i d e => ?_⟩
  by_cases hi : i < ds.length
  · rw [List.getElem?_append_left (by simpa using hi), List.getElem?_map, List.getElem?_eq_getElem hi] at e
    cases e
    obtain ⟨v, g, rv⟩ := r.get (List.getElem?_eq_getElem hi)
    refine ⟨v, ?_, rv⟩
    unfold L2.start
    rw [List.getElem?_append_left (by simpa [hv] using hi), List.getElem?_map, g]
    rfl
  · rw [List.getElem?_append_right (by simpa using hi)] at e
    have := List.mem_of_getElem? e
    simp at this
end
section
variable {P : Program} {w : World} {K : PySem.W.Frag} {mg : Str → Option Value} {base : Heap} {x qual : Str} {params : Arguments} {body : List Stmt} {scope : Scope} {f : Addr} {fd : FuncData} {N ps : List Str} {k : Nat} {bm : SM}
abbrev CxB (P : Program) (w : World) (K : PySem.W.Frag) (mg : Str → Option Value) (base : Heap) (N : List Str) (qual : Str) (scope : Scope) (f : Addr) (cdv : Value) (A : Around) (outer : List Env) (s : Shared) (H : Hp) (E : XK) : Cx :=
  cxOf (L2.CX P w) P w K mg base N qual scope f cdv A outer s H E
theorem cok_body (nd : N.Nodup) {cdv : Value} {A : Around} {outer : List Env} {s : Shared} {H : Hp} {E : XK} : Cok (CxB P w K mg base N qual scope f cdv A outer s H E) E :=
  ⟨rfl, nd, fun pins σ H' s' e s'' I h => passes_call (takes_of rfl rfl rfl rfl) (fun _ _ _ _ q => q) pins σ H' s' e s'' I h, takes_of rfl rfl rfl rfl, passes_of rfl⟩
theorem fnM_read {E : XK} {S : Sx} {H : Hp} {h : PH} {ds : List D} {vs : List V} {Q : VK} {np : Nat} (sim : Sim K mg S H h) (r : Reps K mg S H ds vs) (q : Post K mg E (Rep K mg) S H (fnM np N.length bm ds h) Q) :
    tS K mg E bm { nx := fun _ H' => Q .non H', rt := Q } (L2.start N vs) H := by
  unfold fnM at q
  split at q
  · rename_i hl
    refine ⟨S, _, h, sim, env_start r hl, ?_⟩
    cases e : bm (ds.map some ++ List.replicate (N.length - np) none) h with
    | ok fl h' =>
      rw [e] at q
      cases fl with
      | nx ρ => exact fun b S' H' e' s' r' => by cases b <;> first | exact r'.elim | exact q V.non S' H' e' s' rfl
      | rt d => exact fun b S' H' e' s' r' => by cases b <;> first | exact r'.elim | exact q _ S' H' e' s' r'
      | bk ρ => exact q.elim
      | ct ρ => exact q.elim
    | exc x h' => rw [e] at q; exact q
    | stuck => rw [e] at q; exact q
  · exact q.elim
theorem fn_okM (F : FunD K x qual params body scope [] [] f fd) (S : FnScope N ps scope) (hb : ∀ (E : XK) (cdv : Value) (A : Around) (outer : List Env) (s : Shared) (H : Hp), Room k (A.deeper (envOfC qual scope s.heap.objs.size f cdv)) → RSs (CxB P w K mg base N qual scope f cdv A outer s H E) E body bm) :
    FnOk P w K mg base (L2.CX P w) (k + 1) f fd ps (spM K mg (fnM ps.length N.length bm) ps.length) :=
  F.ok S (fun vs H Q E h => h.1) fun cdv A outer s H vs Q E hr ⟨_, S, h, ds, sim, r, q⟩ => ⟨_, hb E cdv A outer s H hr, fnM_read sim r q⟩
theorem fn_okP (F : FunD K x qual params body scope [] [] f fd) (S : FnScope N ps scope) (hb : ∀ (E : XK) (cdv : Value) (A : Around) (outer : List Env) (s : Shared) (H : Hp), Room k (A.deeper (envOfC qual scope s.heap.objs.size f cdv)) → RSs (CxB P w K mg base N qual scope f cdv A outer s H E) E body bm) :
    FnOk P w K mg base (L2.CX P w) (k + 1) f fd ps (spP K mg (fnP ps.length N.length bm) ps.length) :=
  F.ok S (fun vs H Q E h => h.1) fun cdv A outer s H vs Q E hr ⟨_, ds, r, q⟩ => ⟨_, hb E cdv A outer s H hr, fnM_read (np := ps.length) sim_entry r (by
    unfold fnP at q
    cases e : fnM ps.length N.length bm ds [] with
    | ok d h' =>
      rw [e] at q
      simp only at q
      cases e2 : resF h' 16 d with
      | none => rw [e2] at q; exact (q : False).elim
      | some d' =>
        rw [e2] at q
        exact fun v S' H' e' s' r' => q v H' (fun a o ho => e'.keep a o (by simp [Sx.entry]) ho) (res_ok e' s' 16 d d' v e2 r')
    | exc x h' =>
      rw [e] at q
      exact fun S' H' e' s' => q H' (fun a o ho => e'.keep a o (by simp [Sx.entry]) ho)
    | stuck => rw [e] at q; exact (q : False).elim)⟩
end
section
variable {X : Cx} {E : XK} {k : Nat} {f : Addr} {fd : FuncData} {ps : List Str} {x : Str} {p pos : Pos} {e : Expr} {es : List Expr} {mas : AM} {n : Nat}
theorem re_callM {m : List D → PH → Out D} (F : FnOk X.prog X.w X.K X.mg X.base (L2.CX X.prog X.w) k f fd ps (spM X.K X.mg m n)) (c : Cok X E) (hr : Room k X.A) (hg : Gl X x) (hm : X.mg x = some (.ref f)) (hk : PySem.W.keepIn X.K (.ref f) = true) (hb : Binds X.K fd ps [])
    (ha : RA X E (e :: es) mas) (hn : ∀ ds h Q S H, Post X.K X.mg E (Rep X.K X.mg) S H (m ds h) Q → ds.length = n) (hdb : (x == ("__debug__" : Str)) = false := by decide) (he : starEach (e :: es) X.env = (false, eval e X.env) :: starEach es X.env := by rfl) (hpl : (backTo pos (starEach es X.env)).any (·.1) = false := by rfl) :
    RE X E (.Call (.Name x p) (e :: es) [] pos) (eCallM m mas) :=
  PE.weak (pe_call F hr hg hm hk hb .nil c.pass ha hdb he hpl) fun σ H Q ⟨S, ρ, h, sim, env, q⟩ => tG_seq sim env q fun y S1 H1 h1 dx e1 s1 r1 env1 q1 => by
    rw [List.append_nil]
    exact ⟨by rw [r1.length]; exact hn _ _ _ _ _ q1, S1, h1, dx, s1, r1, q1⟩
theorem fnM_len {K : PySem.W.Frag} {mg : Str → Option Value} {np n : Nat} {bm : SM} (ds : List D) (h : PH) (Q : VK) (S : Sx) (H : Hp) (q : Post K mg E (Rep K mg) S H (fnM np n bm ds h) Q) : ds.length = np := by
  unfold fnM at q
  split at q
  · assumption
  · exact q.elim
theorem runP_read {K : PySem.W.Frag} {mg : Str → Option Value} {m : List D → Res} {S : Sx} {H : Hp} {h : PH} {ds : List D} {vs : List V} {Q : VK} (sim : Sim K mg S H h) (r : Reps K mg S H ds vs) (q : Post K mg E (Rep K mg) S H (runP m ds h) Q) :
    ∃ ds, Reps K mg (Sx.entry H) H ds vs ∧ postP K mg E H (m ds) Q := by
  unfold runP at q
  split at q
  · rename_i es e1
    refine ⟨es, snaps_ok (fun d d' v => snap_ok sim 16 d d' v) e1 r, ?_⟩
    cases e2 : m es with
    | ok d =>
      rw [e2] at q
      exact fun v H' g rv => q v S H' (Ext.grow g) (sim.grow g) (Rep.ofBack sim d v rv)
    | exc x =>
      rw [e2] at q
      exact fun H' g => q S H' (Ext.grow g) (sim.grow g)
    | stuck => rw [e2] at q; exact q
  · exact q.elim
theorem re_callP {m : List D → Res} (F : FnOk X.prog X.w X.K X.mg X.base (L2.CX X.prog X.w) k f fd ps (spP X.K X.mg m n)) (c : Cok X E) (hr : Room k X.A) (hg : Gl X x) (hm : X.mg x = some (.ref f)) (hk : PySem.W.keepIn X.K (.ref f) = true) (hb : Binds X.K fd ps [])
    (ha : RA X E (e :: es) mas) (hn : ∀ ds, m ds = .stuck ∨ ds.length = n) (hdb : (x == ("__debug__" : Str)) = false := by decide) (he : starEach (e :: es) X.env = (false, eval e X.env) :: starEach es X.env := by rfl) (hpl : (backTo pos (starEach es X.env)).any (·.1) = false := by rfl) :
    RE X E (.Call (.Name x p) (e :: es) [] pos) (eCallP m mas) :=
  PE.weak (pe_call F hr hg hm hk hb .nil c.pass ha hdb he hpl) fun σ H Q ⟨S, ρ, h, sim, env, q⟩ => tG_seq sim env q fun y S1 H1 h1 dx e1 s1 r1 env1 q1 => by
    rw [List.append_nil]
    obtain ⟨ds, rs, pq⟩ := runP_read s1 r1 q1
    refine ⟨?_, ds, rs, pq⟩
    rcases hn ds with z | z
    · rw [z] at pq; exact pq.elim
    · rw [rs.length]; exact z
theorem fnP_len {np n : Nat} {bm : SM} (ds : List D) : fnP np n bm ds = .stuck ∨ ds.length = np := by
  by_cases h : ds.length = np
  · exact .inr h
  · left
    unfold fnP fnM
    rw [if_neg h]
theorem re_callT {m : List D → Res} (F : FnOk X.prog X.w X.K X.mg X.base (L2.CX X.prog X.w) k f fd ps (spP X.K X.mg m n)) (c : Cok X E) (hr : Room k X.A) (hg : Gl X x) (hm : X.mg x = some (.ref f)) (hk : PySem.W.keepIn X.K (.ref f) = true) (hb : Binds X.K fd ps [])
    (ha : RA X E (e :: es) mas) (hn : ∀ ds, m ds = .stuck ∨ ds.length = n) (hdb : (x == ("__debug__" : Str)) = false := by decide) (he : starEach (e :: es) X.env = (false, eval e X.env) :: starEach es X.env := by rfl) (hpl : (backTo pos (starEach es X.env)).any (·.1) = false := by rfl) :
    RE X E (.Call (.Name x p) (e :: es) [] pos) (eCallT m mas) :=
  PE.weak (pe_call F hr hg hm hk hb .nil c.pass ha hdb he hpl) fun σ H Q ⟨S, ρ, h, sim, env, q⟩ => tG_seq sim env q fun y S1 H1 h1 dx e1 s1 r1 env1 q1 => by
    rw [List.append_nil]
    unfold runT at q1
    split at q1
    · rename_i ds e2
      have rs := snaps_ok (fun d d' v => snap_ok s1 16 d d' v) e2 r1
      cases e3 : m ds with
      | ok d =>
        rw [e3] at q1
        cases d with
        | lst g xs =>
          cases g with
          | own =>
            simp only at q1
            split at q1
            · rename_i hno
              refine ⟨?_, ds, rs, ?_⟩
              · rcases hn ds with z | z
                · rw [z] at e3; cases e3
                · rw [rs.length]; exact z
              · rw [e3]
                intro v H' g rv
                obtain ⟨a, ws, rfl, ⟨t, nf⟩, qs⟩ := rv
                have na : H1 a = none := by
                  cases z : H1 a with
                  | none => rfl
                  | some o => exact absurd (show H1 a ≠ none by rw [z]; simp) nf
                have qs2 : Reps X.K X.mg (S1.push a) H' xs ws := Reps.noLst xs ws hno qs
                have ex : Ext S1 H1 (S1.push a) H' := ⟨rfl, ⟨[a], rfl, fun b hb => by rw [List.mem_singleton.mp hb]; exact na⟩, fun b hb => hb.imp id (fun e => by rw [e]; exact na), fun b hb => .inl hb, fun b u _ e => g b u e⟩
                have s2 := s1.grow g
                have ma : a ∉ S1.μ := fun z => s1.live z na
                refine q1 _ (S1.push a) H' ex ⟨by simp [Sx.push, s1.len], ?_, fun b hb => ?_, fun b hb => ?_, fun b hb => ?_, s2.on, fun n o eo => ?_⟩ ⟨a, ?_, rfl⟩
                · refine List.nodup_append.mpr ⟨s1.nd, by simp, fun b hb c hc => ?_⟩
                  rw [List.mem_singleton.mp hc]
                  rintro rfl
                  exact ma hb
                · rcases List.mem_append.mp hb with z | z
                  · exact .inl (s1.sub b z)
                  · exact .inr (List.mem_singleton.mp z)
                · rcases List.mem_append.mp hb with z | z
                  · exact s1.no b z
                  · rw [List.mem_singleton.mp z]
                    exact fun z => s1.on a z na
                · rcases hb with hb | rfl
                  · exact s2.fn b hb
                  · rw [t]; simp
                · by_cases hl : n < h1.length
                  · rw [List.getElem?_append_left hl] at eo
                    obtain ⟨b, hb, ro⟩ := s1.obj n o eo
                    refine ⟨b, ?_, ro.mono s1 ex (g b)⟩
                    show (S1.μ ++ [a])[n]? = _
                    rw [List.getElem?_append_left (by rw [s1.len]; exact hl)]
                    exact hb
                  · have hn' : n = h1.length := by
                      have := (List.getElem?_eq_some_iff.mp eo).1
                      simp at this
                      omega
                    subst hn'
                    rw [List.getElem?_append_right (Nat.le_refl _)] at eo
                    simp at eo
                    subst eo
                    refine ⟨a, ?_, ws, t, qs2⟩
                    show (S1.μ ++ [a])[h1.length]? = _
                    rw [List.getElem?_append_right (by rw [s1.len]; exact Nat.le_refl _), s1.len]
                    simp
                · show (S1.μ ++ [a])[h1.length]? = _
                  rw [List.getElem?_append_right (by rw [s1.len]; exact Nat.le_refl _), s1.len]
                  simp
            · exact q1.elim
          | _ => exact q1.elim
        | _ => exact q1.elim
      | exc x =>
        rw [e3] at q1
        refine ⟨?_, ds, rs, ?_⟩
        · rcases hn ds with z | z
          · rw [z] at e3; cases e3
          · rw [rs.length]; exact z
        · rw [e3]
          exact fun H' g => q1 S1 H' (Ext.grow g) (s1.grow g)
      | stuck => rw [e3] at q1; exact q1.elim
    · exact q1.elim
end
end R
/-! t[::-1] of a tuple -/
namespace L2
open PySem PySem.Spec PyProof.Rows HT
section
variable {prog : Program} {w : World} {A : Around} {E : Value → Shared → Prop} {s : Shared}
theorem places_rev (n : Nat) : Builtin.Slice.slicePlaces ((n : Int) - 1) (-1) (-1) = n := by
  unfold Builtin.Slice.slicePlaces
  rw [if_neg (by omega)]
  by_cases h : n = 0
  · subst h; rfl
  · rw [if_pos (by omega)]
    simp
theorem pick_rev (xs : Array Value) : ((List.range xs.size).filterMap fun (m : Nat) => xs[(((xs.size : Int) - 1) + (m : Int) * (-1)).toNat]?).toArray = xs.toList.reverse.toArray := by
  congr 1
  refine List.ext_getElem? fun i => ?_
  have key : ∀ k, k ≤ xs.size → ((List.range k).filterMap fun (m : Nat) => xs[(((xs.size : Int) - 1) + (m : Int) * (-1)).toNat]?) = xs.toList.reverse.take k := by
    intro k
    induction k with
    | zero => intro _; simp
    | succ k ih =>
      intro hk
      rw [List.range_succ, List.filterMap_append, ih (by omega)]
      have e : (((xs.size : Int) - 1) + (k : Int) * (-1)).toNat = xs.size - 1 - k := by omega
      have e2 : xs.toList.reverse[k]? = some (xs[xs.size - 1 - k]'(by omega)) := by
        rw [List.getElem?_reverse (by rw [Array.length_toList]; omega), Array.length_toList, Array.getElem?_toList, Array.getElem?_eq_getElem (by omega)]
      rw [List.take_succ, e2]
      congr 1
      simp only [List.filterMap_cons, List.filterMap_nil, e]
      rw [Array.getElem?_eq_getElem (by omega)]
      rfl
  rw [key xs.size (Nat.le_refl _), List.take_of_length_le (by simp)]
theorem applied_rev {sl : Addr} {vs : Value} {n : Nat} {Q : Int × Int × Nat → Shared → Prop} (hs : s.heap.IsSliceOf sl .none .none vs) (ps : IsPart vs (some (-1)))
    (h : Q ((n : Int) - 1, -1, n) s) : wpAny (model prog w) A (Builtin.Slice.sliceApplied (.ref sl) (pure (n : Int))) Q E s := by
  obtain ⟨os, hos, hcs, hds⟩ := id hs
  unfold Builtin.Slice.sliceApplied Builtin.Slice.sliceFields
  refine wpAny_bind (wpAny_bind (wpAny_field hos hds (x := .none) rfl (wpAny_bind (wpAny_field hos hds (x := .none) rfl (wpAny_bind (wpAny_field hos hds (x := vs) rfl (wpAny_pure ?_)))))))
  refine wpAny_bind (slicePart_ ps ?_)
  show wpAny _ _ (if ((-1 : Int) == 0) = true then _ else _) _ _ s
  rw [if_neg (by decide)]
  refine wpAny_bind (slicePart_none (wpAny_bind (slicePart_none (wpAny_bind (wpAny_pure ?_)))))
  show wpAny _ _ (match Builtin.Slice.sliceAdjust none none (-1) (n : Int) with | (lo, hi) => pure (lo, (-1 : Int), Builtin.Slice.slicePlaces lo hi (-1))) _ _ s
  rw [show Builtin.Slice.sliceAdjust none none (-1) (n : Int) = ((n : Int) - 1, -1) from rfl]
  show wpAny _ _ (pure ((n : Int) - 1, (-1 : Int), Builtin.Slice.slicePlaces ((n : Int) - 1) (-1) (-1))) _ _ s
  rw [places_rev]
  exact wpAny_pure h
theorem getItem_tuple_rev {t sl : Addr} {items : Array Value} {vs : Value} {Q : Value → Shared → Prop} (ht : IsTup s.heap t items) (hs : s.heap.IsSliceOf sl .none .none vs) (ps : IsPart vs (some (-1)))
    (h : Q (.ref s.heap.objs.size) { s with heap := s.heap.push { cls := .type "tuple", data := .seq items.toList.reverse.toArray } })
    (hsz : items.size ≤ sizeLine) : wpAny (model prog w) A (getItem (.ref t) (.ref sl)) Q E s := by
  have htake : sizeOk (.seq items.toList.reverse.toArray) := by
    show items.toList.reverse.toArray.size ≤ sizeLine
    rw [List.size_toArray, List.length_reverse, Array.length_toList]
    exact hsz
  obtain ⟨os, hos, hcs, hds⟩ := id hs
  have hTs : s.TypeIs (.ref sl) "slice" := ⟨os, hos, hcs⟩
  unfold getItem
  try with_reducible refine wpAny_holding ?_
  first | refine wpAny_bind (wpAny_pure ?_) | skip
  refine wpAny_bind (wpAny_sequenceKey ht.typeIs (by decide) ?_)
  refine wpAny_bind (wpAny_callSpecial?_slot (name := Str.ofString "__getitem__") ht.typeIs PyProof.Rows.slot_tuple_getitem
    (wpAny_call_entry PyProof.Rows.slot_tuple_getitem ht.typeIs entry_tuple_getitem ?_ (args_tuple_getitem _ _)))
  show wpAny _ _ (Builtin.Tuple.tupleItemsOf (.ref t) >>= _) _ _ s
  refine wpAny_bind (tupleItemsOf_ ht ?_)
  refine wpAny_bind (wpAny_typeOf hTs ?_)
  rw [if_pos (by decide)]
  refine wpAny_bind (applied_rev (n := items.size) hs ps ?_)
  have hno : ¬ ((((items.size : Int) - 1) == 0 && (-1 : Int) == 1 && items.size == items.size) = true) := by
    intro q
    rw [Bool.and_eq_true, Bool.and_eq_true] at q
    exact absurd q.1.2 (by decide)
  show wpAny _ _ (if (((items.size : Int) - 1) == 0 && (-1 : Int) == 1 && items.size == items.size) = true then _ else _) _ _ s
  rw [if_neg hno, pick_rev]
  first
    | exact wpAny_bind (m := Builtin.Tuple.tupleExact _) (wpAny_newObj_type (wpAny_pure ⟨_, rfl, wpAny_pure h⟩) htake)
    | exact wpAny_bind (m := Builtin.Tuple.tupleExact _) (wpAny_newObj_type (wpAny_bind (wpAny_pure (wpAny_pure ⟨_, rfl, wpAny_pure h⟩))) htake)
    | exact wpAny_bind (wpAny_bind (m := Builtin.Tuple.tupleExact _) (wpAny_newObj_type (wpAny_pure (wpAny_pure ⟨_, rfl, wpAny_pure h⟩)) htake))
    | exact wpAny_bind (wpAny_bind (m := Builtin.Tuple.tupleExact _) (wpAny_newObj_type (wpAny_pure ⟨_, rfl, wpAny_pure h⟩) htake))
end
section
variable {X : Cx}
def tRevT (K : PySem.W.Frag) (te : TE) : TE := fun σ H Q => te σ H fun x H1 => ∃ a xs, x = .ref a ∧ SqT K H1 a xs ∧ ∀ p H', R.NewZ H1 p xs.reverse H' → Q (.ref p) H'
theorem pe_revT {e : Expr} {te : TE} {k : Nat} {p1 p2 p3 pos : Pos} (he : PE X e te) : PE X (.Subscript e (.Slice none none (some (.UnaryOp .USub (.Constant (.int 1) k p1) p2)) p3) pos) (tRevT X.K te) := by
  refine ⟨fun pins s σ H Q I h => ?_⟩
  refine Subscript_ (thn (he.run pins s σ H _ I h) fun v s1 ⟨x, H1, I1, r1, q1⟩ => ?_)
  obtain ⟨a, xs, ex, hx, q⟩ := q1
  subst ex
  cases r1
  have hst : PO X (some (.UnaryOp .USub (.Constant (.int 1) k p1) p2)) (tPart (tUn (rU fun i => .int (-i)) (tC (.int 1)))) := po_some (pe_un un_neg pe_int)
  refine wpAny_Slice (thn (po_none.run pins s1 σ H1 (fun o H2 => o = none ∧ H2 = H1) I1 ⟨rfl, rfl⟩) fun vl s2 ⟨l, H2, I2, pl, el, e2⟩ => ?_)
  subst el e2
  refine thn (po_none.run pins s2 σ H2 (fun o H3 => o = none ∧ H3 = H2) I2 ⟨rfl, rfl⟩) fun vu s3 ⟨u, H3, I3, pu, eu, e3⟩ => ?_
  subst eu e3
  refine thn (hst.run pins s3 σ H3 (fun o H4 => o = some (-1) ∧ H4 = H3) I3 ⟨1, rfl, -1, rfl, rfl, rfl⟩) fun vs s4 ⟨o, H4, I4, ps, eo, e4⟩ => ?_
  subst eo e4
  have I5 : Inv X pins σ H4 { s4 with heap := s4.heap.push { cls := .type "slice", data := .fields #[vl, vu, vs] } } := I4.kept (t' := s4.toks) fun b ob q => Heap.get?_push_of_some _ q
  obtain ⟨its, r, ht, hz⟩ := I5.tuple hx
  have hlen : its.toArray.size = xs.length := by rw [List.size_toArray]; exact r.length.symm
  cases pl
  cases pu
  show wpAny (model X.prog X.w) X.A (subscriptTail e (.Slice none none (some (.UnaryOp .USub (.Constant (.int 1) k p1) p2)) p3) (.ref a) (.ref s4.heap.objs.size)) (EP X pins σ Q) X.xe { s4 with heap := s4.heap.push { cls := .type "slice", data := .fields #[.none, .none, vs] } }
  refine tail_any (ops := [.ref a, .ref s4.heap.objs.size]) ht.typeIs (PyProof.Rows.slot_tuple_getitem.lookup) ?_ (by with_unfolding_all rfl)
  refine getItem_tuple_rev ht (Heap.IsSliceOf.new _ .none .none vs) ps ?_ (by rw [hlen]; exact hz)
  obtain ⟨H', n, J⟩ := R.Inv.laidZ (us := its.toArray.toList.reverse) (n := 0) (h' := (s4.heap.push { cls := .type "slice", data := .fields #[.none, .none, vs] }).push { cls := .type "tuple", data := .seq its.toArray.toList.reverse.toArray }) (t' := s4.toks) I5 (fun b ob q => Heap.get?_push_of_some _ q) (Nat.le_refl _) (by simpa using r.reverse) (by rw [List.length_reverse]; exact hz) (Heap.get?_push_size _ rfl)
  exact ⟨.ref _, H', J, rfl, q _ _ n⟩
end
end L2
namespace R
open PySem PySem.Spec PyProof.Rows L2

theorem bb_isinstance : bootBuiltins "isinstance" = some (.builtin "isinstance") := by decide +kernel
theorem bb_int : bootBuiltins "int" = some (.type "int") := by decide +kernel
theorem bb_bool : bootBuiltins "bool" = some (.type "bool") := by decide +kernel
theorem bb_tuple : bootBuiltins "tuple" = some (.type "tuple") := by decide +kernel
theorem bb_list : bootBuiltins "list" = some (.type "list") := by decide +kernel
theorem bb_str : bootBuiltins "str" = some (.type "str") := by decide +kernel
theorem bb_dict : bootBuiltins "dict" = some (.type "dict") := by decide +kernel
theorem bb_len : bootBuiltins "len" = some (.builtin "len") := by decide +kernel
theorem bb_sum : bootBuiltins "sum" = some (.builtin "sum") := by decide +kernel
theorem bb_sorted : bootBuiltins "sorted" = some (.builtin "sorted") := by decide +kernel
theorem bb_all : bootBuiltins "all" = some (.builtin "all") := by decide +kernel
theorem bb_any : bootBuiltins "any" = some (.builtin "any") := by decide +kernel
theorem bb_max : bootBuiltins "max" = some (.builtin "max") := by decide +kernel
theorem bb_min : bootBuiltins "min" = some (.builtin "min") := by decide +kernel
theorem bb_abs : bootBuiltins "abs" = some (.builtin "abs") := by decide +kernel
theorem bb_repr : bootBuiltins "repr" = some (.builtin "repr") := by decide +kernel
theorem bb_set : bootBuiltins "set" = some (.type "set") := by decide +kernel
theorem bb_ValueError : bootBuiltins "ValueError" = some (.type "ValueError") := by decide +kernel
/-- the built-ins' names are free -/
structure Blt (mg : Str → Option Value) : Prop where
  isinstance : mg "isinstance" = none
  int : mg "int" = none
  bool : mg "bool" = none
  tuple : mg "tuple" = none
  list : mg "list" = none
  str : mg "str" = none
  dict : mg "dict" = none
  len : mg "len" = none
  sum : mg "sum" = none
  range : mg "range" = none
  sorted : mg "sorted" = none
  zip : mg "zip" = none
  enumerate : mg "enumerate" = none
  all : mg "all" = none
  any : mg "any" = none
  max : mg "max" = none
  min : mg "min" = none
  abs : mg "abs" = none
  repr : mg "repr" = none
  set : mg "set" = none
  ValueError : mg "ValueError" = none
structure ExcK (K : PySem.W.Frag) (mg : Str → Option Value) (x : Str) : Prop where
  ex : ∃ C, mg x = some (.ref C) ∧ PySem.W.excIn K C He.veBase "ValueError.__new__" = true ∧ PySem.W.keepIn K (.ref C) = true ∧ PySem.W.subIn K (.ref C) (.type "BaseException") = some true ∧ PySem.W.typeIn K (.ref C) = some (.type "type")
def GInt (mg : Str → Option Value) (x : Str) (i : Int) : Prop := ∃ t, mg x = some (.int i t)
/-- a def of the module where its name says -/
def DefHere (K : PySem.W.Frag) (mg : Str → Option Value) (x : Str) (st : Stmt) : Prop := ∃ f fd, mg x = some (.ref f) ∧ FunD K x x (defArgs st) (defBody st) (defScope st) [] [] f fd
/-- a def whose promise is known -/
structure Known (P : Program) (w : World) (K : PySem.W.Frag) (mg : Str → Option Value) (base : Heap) (x : Str) (k : Nat) (ps : List Str) (sp : Sp) : Prop where
  ex : ∃ f fd, FnOk P w K mg base (L2.CX P w) k f fd ps sp ∧ mg x = some (.ref f) ∧ PySem.W.keepIn K (.ref f) = true ∧ Binds K fd ps []
def KnP (P : Program) (w : World) (K : PySem.W.Frag) (mg : Str → Option Value) (base : Heap) (x : Str) (k : Nat) (ps : List Str) (m : List D → Res) : Prop :=
  Known P w K mg base x k ps (spP K mg m ps.length) ∧ ∀ ds, m ds = .stuck ∨ ds.length = ps.length
def KnM (P : Program) (w : World) (K : PySem.W.Frag) (mg : Str → Option Value) (base : Heap) (x : Str) (k : Nat) (ps : List Str) (m : List D → PH → Out D) : Prop :=
  Known P w K mg base x k ps (spM K mg m ps.length) ∧ ∀ ds h, m ds h = .stuck ∨ ds.length = ps.length
section
variable {P : Program} {w : World} {K : PySem.W.Frag} {mg : Str → Option Value} {base : Heap} {x : Str} {st : Stmt} {N ps : List Str} {k : Nat} {bm : SM}
theorem known_P (D0 : DefHere K mg x st) (S : FnScope N ps (defScope st))
    (hbind : ∀ (kV doc pm : Value) (an : Option Addr) (cdv ct : Value) (us : List Value), us.length = ps.length → bindArgs (PySem.W.fnOf x x (defArgs st) (defBody st) (defScope st) .none kV doc pm an cdv ct) ⟨us, []⟩ = pure (ps.zip us))
    (hb : ∀ (f : Addr) (E : XK) (cdv : Value) (A : Around) (outer : List Env) (s : Shared) (H : Hp), Room k (A.deeper (envOfC x (defScope st) s.heap.objs.size f cdv)) → RSs (CxB P w K mg base N x (defScope st) f cdv A outer s H E) E (defBody st) bm) :
    KnP P w K mg base x (k + 1) ps (fnP ps.length N.length bm) :=
  let ⟨f, fd, g, F⟩ := D0
  ⟨⟨f, fd, fn_okP F S (hb f), g, F.kp, FunD.bindsN F hbind⟩, fnP_len⟩
theorem known_M (D0 : DefHere K mg x st) (S : FnScope N ps (defScope st))
    (hbind : ∀ (kV doc pm : Value) (an : Option Addr) (cdv ct : Value) (us : List Value), us.length = ps.length → bindArgs (PySem.W.fnOf x x (defArgs st) (defBody st) (defScope st) .none kV doc pm an cdv ct) ⟨us, []⟩ = pure (ps.zip us))
    (hb : ∀ (f : Addr) (E : XK) (cdv : Value) (A : Around) (outer : List Env) (s : Shared) (H : Hp), Room k (A.deeper (envOfC x (defScope st) s.heap.objs.size f cdv)) → RSs (CxB P w K mg base N x (defScope st) f cdv A outer s H E) E (defBody st) bm) :
    KnM P w K mg base x (k + 1) ps (fnM ps.length N.length bm) :=
  let ⟨f, fd, g, F⟩ := D0
  ⟨⟨f, fd, fn_okM F S (hb f), g, F.kp, FunD.bindsN F hbind⟩, fun ds h => by
    by_cases z : ds.length = ps.length
    · exact .inr z
    · left
      unfold fnM
      rw [if_neg z]⟩
end
section
variable {X : Cx} {E : XK} {k : Nat} {ps : List Str} {x : Str} {p pos : Pos} {e : Expr} {es : List Expr} {mas : AM}
theorem re_cP {m : List D → Res} (G : KnP X.prog X.w X.K X.mg X.base x k ps m) (c : Cok X E) (hr : Room k X.A) (hg : Gl X x) (ha : RA X E (e :: es) mas)
    (hdb : (x == ("__debug__" : Str)) = false := by decide) (he : starEach (e :: es) X.env = (false, eval e X.env) :: starEach es X.env := by rfl) (hpl : (backTo pos (starEach es X.env)).any (·.1) = false := by rfl) :
    RE X E (.Call (.Name x p) (e :: es) [] pos) (eCallP m mas) :=
  let ⟨f, fd, F, hm, hk, hb⟩ := G.1.ex
  re_callP F c hr hg hm hk hb ha G.2 hdb he hpl
theorem re_cT {m : List D → Res} (G : KnP X.prog X.w X.K X.mg X.base x k ps m) (c : Cok X E) (hr : Room k X.A) (hg : Gl X x) (ha : RA X E (e :: es) mas)
    (hdb : (x == ("__debug__" : Str)) = false := by decide) (he : starEach (e :: es) X.env = (false, eval e X.env) :: starEach es X.env := by rfl) (hpl : (backTo pos (starEach es X.env)).any (·.1) = false := by rfl) :
    RE X E (.Call (.Name x p) (e :: es) [] pos) (eCallT m mas) :=
  let ⟨f, fd, F, hm, hk, hb⟩ := G.1.ex
  re_callT F c hr hg hm hk hb ha G.2 hdb he hpl
theorem re_cM {m : List D → PH → Out D} (G : KnM X.prog X.w X.K X.mg X.base x k ps m) (c : Cok X E) (hr : Room k X.A) (hg : Gl X x) (ha : RA X E (e :: es) mas)
    (hdb : (x == ("__debug__" : Str)) = false := by decide) (he : starEach (e :: es) X.env = (false, eval e X.env) :: starEach es X.env := by rfl) (hpl : (backTo pos (starEach es X.env)).any (·.1) = false := by rfl) :
    RE X E (.Call (.Name x p) (e :: es) [] pos) (eCallM m mas) :=
  let ⟨f, fd, F, hm, hk, hb⟩ := G.1.ex
  re_callM F c hr hg hm hk hb ha (fun ds h Q S H q => by
    rcases G.2 ds h with z | z
    · rw [z] at q; exact q.elim
    · exact z) hdb he hpl
theorem rs_exc {msg : Str} {j : Nat} {p2 p3 : Pos} (c : Cok X E) (hg : Gl X x) (G : ExcK X.K X.mg x) (hdb : (x == ("__debug__" : Str)) = false := by decide) :
    RS X E (.Raise (some (.Call (.Name x p) [.Constant (.str msg) j p2] [] p3)) none pos) (sRaise x) :=
  let ⟨C, g, q, kp, sC, tC⟩ := G.ex
  rs_raise c hg g q kp sC tC hdb
/-- a list or a tuple is walked -/
def itS (d : D) (h : PH) : Out Itm := match d with
  | .tup ds => .ok (ds, always) h
  | d => itL d h
def iS (a : EM) (ρ : Rho) (h : PH) : Out Itm := (a ρ h).bind itS
theorem ri_seq {tg : Expr} {ma : EM} (ha : RE X E e ma) : RI X E tg e (iS ma) := by
  refine ⟨fun pins s σ H R I ⟨S, ρ, h, sim, env, q⟩ => ?_⟩
  cases em : ma ρ h with
  | ok d h1 =>
    cases d with
    | tup ds => exact (ri_tup ha).run pins s σ H R I ⟨S, ρ, h, sim, env, by have q2 := q; unfold iS at q2; rw [em] at q2; unfold iT; rw [em]; exact q2⟩
    | _ => exact (ri_list ha).run pins s σ H R I ⟨S, ρ, h, sim, env, by have q2 := q; unfold iS at q2; rw [em] at q2; unfold iL; rw [em]; exact q2⟩
  | exc x h1 => exact (ri_tup ha).run pins s σ H R I ⟨S, ρ, h, sim, env, by have q2 := q; unfold iS at q2; rw [em] at q2; unfold iT; rw [em]; exact q2⟩
  | stuck => exact (ri_tup ha).run pins s σ H R I ⟨S, ρ, h, sim, env, by have q2 := q; unfold iS at q2; rw [em] at q2; unfold iT; rw [em]; exact q2⟩
end
/-- xs[::-1] -/
def eRevL (fz : Bool) (a : EM) (ρ : Rho) (h : PH) : Out D := (a ρ h).bind fun d h1 => match getL h1 d with
  | some ds => mkL fz ds.reverse h1
  | none => .stuck
def kRev (fz : Bool) (d : D) (h : PH) : Out D := match d with
  | .tup ds => .ok (.tup ds.reverse) h
  | d => match getL h d with
    | some ds => mkL fz ds.reverse h
    | none => .stuck
def eRev (fz : Bool) (a : EM) (ρ : Rho) (h : PH) : Out D := (a ρ h).bind (kRev fz)
def eRevT (a : EM) (ρ : Rho) (h : PH) : Out D := (a ρ h).bind fun d h1 => match d with
  | .tup ds => .ok (.tup ds.reverse) h1
  | _ => .stuck
section
variable {X : Cx} {E : XK} {e : Expr} {ma : EM} {k : Nat} {p1 p2 p3 pos : Pos}
theorem re_revL (fz : Bool) (ha : RE X E e ma) : RE X E (.Subscript e (.Slice none none (some (.UnaryOp .USub (.Constant (.int 1) k p1) p2)) p3) pos) (eRevL fz ma) :=
  PE.weak (pe_revL ha) fun σ H Q ⟨S, ρ, h, sim, env, q⟩ => tG_seq sim env q fun x S1 H1 h1 dx e1 s1 r1 env1 q1 => by
    split at q1
    · rename_i ds e
      obtain ⟨a, vs, rfl, t, rs⟩ := getL_ok s1 r1 e
      exact ⟨a, vs, rfl, t, fun p np => mkL_ok s1 rs.reverse q1 np⟩
    · exact q1.elim
theorem re_revT (ha : RE X E e ma) : RE X E (.Subscript e (.Slice none none (some (.UnaryOp .USub (.Constant (.int 1) k p1) p2)) p3) pos) (eRevT ma) :=
  PE.weak (pe_revT ha) fun σ H Q ⟨S, ρ, h, sim, env, q⟩ => tG_seq sim env q fun x S1 H1 h1 dx e1 s1 r1 env1 q1 => by
    split at q1
    · rename_i ds
      obtain ⟨a, vs, rfl, t, rs⟩ := r1
      exact ⟨a, vs, rfl, t.sq, fun p H' n => mkT_ok s1 rs.reverse q1 n⟩
    · exact q1.elim
theorem re_rev (fz : Bool) (ha : RE X E e ma) : RE X E (.Subscript e (.Slice none none (some (.UnaryOp .USub (.Constant (.int 1) k p1) p2)) p3) pos) (eRev fz ma) := by
  refine ⟨fun pins s σ H R I ⟨S, ρ, h, sim, env, q⟩ => ?_⟩
  cases em : ma ρ h with
  | ok d h1 =>
    cases d with
    | tup ds => exact (re_revT ha).run pins s σ H R I ⟨S, ρ, h, sim, env, by have q2 := q; unfold eRev at q2; rw [em] at q2; unfold eRevT; rw [em]; exact q2⟩
    | _ => exact (re_revL fz ha).run pins s σ H R I ⟨S, ρ, h, sim, env, by have q2 := q; unfold eRev at q2; rw [em] at q2; unfold eRevL; rw [em]; exact q2⟩
  | exc x h1 => exact (re_revT ha).run pins s σ H R I ⟨S, ρ, h, sim, env, by have q2 := q; unfold eRev at q2; rw [em] at q2; unfold eRevT; rw [em]; exact q2⟩
  | stuck => exact (re_revT ha).run pins s σ H R I ⟨S, ρ, h, sim, env, by have q2 := q; unfold eRev at q2; rw [em] at q2; unfold eRevT; rw [em]; exact q2⟩
end
theorem cx_none {P : Program} {w : World} {H : Hp} {s : Shared} {e : Value} {s' : Shared} (h : L2.CX P w [] H s (fun _ _ _ => False) e s') : False := by
  obtain ⟨_, _, _, _, _, _, _, _, _, _, _, _, z⟩ := h
  exact z
theorem he_exc {K : PySem.W.Frag} {h : Heap} {mg : Str → Option Value} (X : K.In h) (G : h.Ns mainGlobals mg) {x : Str} (c1 : (He.Fa.glo x).ok K = true) (c : (He.Fa.exc x).ok K = true) : ExcK K mg x :=
  let ⟨a, b, d, e⟩ := He.exc_ok c
  ⟨_, He.glo_ok X G c1, a, b, d, e⟩
/-- the law's promise, from what its def makes of a list of ints -/
theorem law_at {l : PySem.W.OpenLaw} {w : World} {K : PySem.W.Frag} {n k : Nat} {x : Str} {mg : Str → Option Value} {fa : Addr} {h : Heap} {m : List D → Res} {fd : FuncData}
    (hfd : ∀ (s : Shared) (u : Value), BindsTo s fd ⟨[u], []⟩ [(x, u)]) (hF : ∀ base : Heap, K.In base → base.Ns mainGlobals mg → FnOk l.prog w K mg base (L2.CX l.prog w) k fa fd [x] (spP K mg m 1))
    (hm : ∀ ns : List Int, ns.length ≤ n → (∀ z ∈ ns, Builtin.Int.intBits z ≤ 1048576) → m [.lst .cst (ns.map D.int)] = .ok (.bl true)) : LamX.LawAtS l w K (L2.CX l.prog w) k n x mg fa h := by
  refine ⟨fd, [], spP K mg m 1, fun p hp => (by cases hp), fun p hp => (by cases hp), fun p hp => (by cases hp), hfd, fun H a ns hl hb _ hS => ⟨rfl, [.lst .cst (ns.map D.int)], ?_, ?_⟩, fun base kb nb _ => hF base kb nb⟩
  · refine ⟨.ref a, [], rfl, ⟨a, ns.map V.int, rfl, ?_, reps_ints ns⟩, rfl⟩
    rcases hS with (e | ⟨o, e⟩) | e
    · exact .inr (.inr ⟨e, by show H a ≠ none; rw [e]; simp⟩)
    · exact .inl ⟨o, e⟩
    · exact .inr (.inl e)
  · rw [hm ns hl hb]
    exact fun v H' _ r => r
end R
namespace R
open PySem PySem.Spec PyProof.Rows L2
/-! ### l.count(x), by == of data -/
def rCountD (K : PySem.W.Frag) : V → List V → Hp → VK → Prop := fun x xs H Q => ∃ (a : Addr) (y : V) (d : PyData) (ds : List PyData), x = V.ref a ∧ xs = [y] ∧ Dp K H (V.ref a) (.list ds) ∧ Dp K H y d ∧ SeqAt.shaped (.list ds) = true ∧ PdOk 8 d ∧ Q (.int ((ds.countP fun z => PyData.eqv z d) : Nat)) H
theorem mt_countD {X : Cx} (hu : X.A.units + 64 < cLine) : MtR X "list.count" (rCountD X.K) := by
  intro pins s σ H x xs v us Q I rx rxs ⟨a, y, d, ds, ex, exs, hl, hy, sl, sd, q⟩
  subst ex exs
  cases rx
  obtain ⟨uy, rfl, ry⟩ := rxs.one
  obtain ⟨bs, r1⟩ := Dp.reads I d y uy hy ry
  have lay : PyData.canLayAll0 ds = true := SeqAt.canLay_of_shaped sl
  have room : X.A.units + 1 + min (PyData.depthAll ds) d.depth < cLine := by have := sd.2; omega
  cases hl with
  | lst hs ha =>
    obtain ⟨its, rv, ⟨⟨cls, dd, data, sls⟩, n, ho, hc, hdn, hdt⟩, hlen⟩ := I.list hs
    simp only at hc hdt
    subst hc hdt
    obtain ⟨as, h4⟩ := Dp.readsAll I ds _ its ha rv
    have em : its.map (SeqAt.readOf s.heap) = ds := SeqAt.readsAll_map ds its as lay h4
    have ec : its.toArray.toList.countP (fun u => PyData.eqv (SeqAt.readOf s.heap u) d) = ds.countP fun z => PyData.eqv z d := by
      rw [← em, List.countP_map]
      rfl
    refine call_meets PySem.F.slot_list_count ⟨_, ho, rfl⟩ PySem.F.entry_list_count (PySem.F.args_list_count_2 _ _) (SeqAt.list_countAt a its.toArray n dd sls uy fun u => PyData.eqv (SeqAt.readOf s.heap u) d) ⟨ho, SeqAt.items_eqAt (vs := its.toArray) (show ReadsAll s.heap its.toArray.toList ds as from h4) r1 lay sd.1 room, ?_⟩
    rw [ec]
    exact ⟨.int ((ds.countP fun z => PyData.eqv z d) : Nat), H, I.tok _, ⟨_, rfl⟩, q⟩
def fCount (d : D) (as : List D) (h : PH) : Out D := match as with
  | [y] => (match pdF h 64 d, pdF h 8 y with
    | some (.list ps), some p => .ok (.int ((ps.countP fun z => PyData.eqv z p) : Nat)) h
    | _, _ => .stuck)
  | _ => .stuck
section
variable {K : PySem.W.Frag} {mg : Str → Option Value} {E : XK}
theorem ref_of_list {H : Hp} {x : V} {ds : List PyData} (r : Dp K H x (.list ds)) : ∃ a, x = V.ref a := by
  cases r
  exact ⟨_, rfl⟩
theorem ms_count : MtS K mg E (rCountD K) fCount := fun S H h x xs d ds Q sim r rs q => by
  unfold fCount at q
  split at q
  · obtain ⟨y, rfl, ry⟩ := rs.one_inv
    split at q
    · rename_i ps p e1 e2
      obtain ⟨h1, h2⟩ := pd_ok sim 64 _ _ _ e1 r
      obtain ⟨h3, h4⟩ := pd_ok sim 8 _ _ _ e2 ry
      obtain ⟨a, rfl⟩ := ref_of_list h1
      exact ⟨a, y, p, ps, rfl, rfl, h1, h3, pd_shaped h2, h4, Post.get (b := V.int _) q sim rfl⟩
    · exact q.elim
  · exact q.elim
end
end R
namespace R
open PySem PySem.Spec PyProof.Rows L2
/-! ### dicts of ints and texts -/
def eDct (_ : Rho) (h : PH) : Out D := .ok (.loc h.length) (h ++ [.dct []])
section
variable {X : Cx} {E : XK} {pos : Pos}
theorem re_dct : RE X E (.Dict [] [] pos) eDct :=
  PE.weak pe_dnewK fun σ H Q ⟨S, ρ, h, sim, env, q⟩ p np => by
    have e : Ext S H (S.push p) (upd H p (.dK [])) := Ext.push np
    refine q _ (S.push p) _ e (sim.push np ⟨[], upd_same, rfl, rfl⟩) ⟨p, ?_, rfl⟩
    show (S.μ ++ [p])[h.length]? = _
    rw [← sim.len]
    simp
/-- a dict that nobody changes, its things forgotten -/
def eOth (_ : Rho) (h : PH) : Out D := .ok (.oth true) h
theorem re_oth : RE X E (.Dict [] [] pos) eOth :=
  PE.weak pe_dnewK fun σ H Q ⟨S, ρ, h, sim, env, q⟩ p np =>
    q _ S _ (Ext.grow (new_keep np)) (sim.grow (new_keep np)) ⟨p, [], rfl, upd_same, fun z => sim.fn p z np⟩
def keyD : D → Option Key
  | .int i => some (.inl i)
  | .str x => some (.inr x)
  | _ => none
def findK (kvs : List (Key × D)) (k : Key) : Option D := (kvs.find? fun kv => decide (kv.1 = k)).map (·.2)
variable {K : PySem.W.Frag} {mg : Str → Option Value} {S : Sx} {H : Hp} {h : PH} {d : D} {v : V}
theorem keyD_ok {k : Key} (r : Rep K mg S H d v) (e : keyD d = some k) : v = kV k := by
  cases d <;> first | (cases e; exact r) | cases e
theorem dct_at {n : Nat} {kvs : List (Key × D)} (sim : Sim K mg S H h) (r : Rep K mg S H (.loc n) v) (eh : h[n]? = some (.dct kvs)) : ∃ a kws, v = .ref a ∧ S.μ[n]? = some a ∧ H a = some (.dK kws) ∧ kws.map (·.1) = kvs.map (·.1) ∧ Reps K mg S H (kvs.map (·.2)) (kws.map (·.2)) := by
  obtain ⟨a, ha, rfl⟩ := r
  obtain ⟨b, hb, hO⟩ := sim.obj n _ eh
  rw [ha] at hb
  cases hb
  obtain ⟨kws, e1, e2, e3⟩ := hO
  exact ⟨a, kws, rfl, ha, e1, e2, e3⟩
theorem find_ok {k : Key} : ∀ {kvs : List (Key × D)} {kws : List (Key × V)}, kws.map (·.1) = kvs.map (·.1) → Reps K mg S H (kvs.map (·.2)) (kws.map (·.2)) → match findK kvs k with
    | some d => ∃ v, valV kws k = some v ∧ Rep K mg S H d v
    | none => valV kws k = none
  | [], [], _, _ => rfl
  | [], _ :: _, e, _ => by cases e
  | _ :: _, [], e, _ => by cases e
  | (k1, d1) :: kvs, (k2, v2) :: kws, e, r => by
    simp only [List.map_cons, List.cons.injEq] at e r
    obtain ⟨e1, e2⟩ := e
    obtain ⟨v', r', e3, q, t⟩ := r
    simp only [List.cons.injEq] at e3
    obtain ⟨e4, e5⟩ := e3
    subst e1 e4 e5
    by_cases z : k2 = k
    · subst z
      simp only [findK, List.find?_cons, decide_true, Option.map_some]
      exact ⟨v2, valV_pos rfl, q⟩
    · have ih := find_ok (k := k) e2 t
      have ef : findK ((k2, d1) :: kvs) k = findK kvs k := by simp [findK, List.find?_cons, z]
      have ev : valV ((k2, v2) :: kws) k = valV kws k := valV_neg z
      rw [ef, ev]
      exact ih
def oDGet (d y : D) (h : PH) : Out D := match d with
  | .loc n => (match h[n]?, keyD y with
    | some (.dct kvs), some k => (match findK kvs k with
      | some x => .ok x h
      | none => .stuck)
    | _, _ => .stuck)
  | _ => .stuck
theorem re_dget {a b : Expr} {ma mb : EM} (hu : X.A.units + 1 < cLine) (ha : RE X E a ma) (hb : RE X E b mb) (hs : NoSl b) : RE X E (.Subscript a b pos) (eBin oDGet ma mb) :=
  PE.weak (pe_dget hu ha hb hs) fun σ H Q ⟨S, ρ, h, sim, env, q⟩ =>
    tG_seq sim env q fun x S1 H1 h1 dx e1 s1 r1 env1 q1 => tG_seq s1 env1 q1 fun y S2 H2 h2 dy e2 s2 r2 env2 q2 => by
      have rx := Rep.mono s1 e2 _ _ r1
      unfold oDGet at q2
      split at q2
      · rename_i n
        split at q2
        · rename_i kvs k eh ek
          obtain ⟨a, kws, rfl, hm, e3, e4, e5⟩ := dct_at s2 rx eh
          have f := find_ok (k := k) e4 e5
          split at q2
          · rename_i x ex
            rw [ex] at f
            obtain ⟨v, f1, f2⟩ := f
            rw [keyD_ok r2 ek]
            exact ⟨a, v, rfl, .inl ⟨kws, k, .inl e3, rfl, f1.symm⟩, Post.get q2 s2 f2⟩
          · exact q2.elim
        · exact q2.elim
      · exact q2.elim
/-- y in d, y not in d, of a dict -/
def oDIn (neg : Bool) (y d : D) (h : PH) : Out D := match d with
  | .loc n => (match h[n]?, keyD y with
    | some (.dct kvs), some k => .ok (.bl (if neg then !(findK kvs k).isSome else (findK kvs k).isSome)) h
    | _, _ => .stuck)
  | _ => .stuck
theorem din_ok {E : XK} {neg : Bool} {x y : V} {dx dy : D} {Q : VK} (sim : Sim K mg S H h) (ry : Rep K mg S H dy y) (rx : Rep K mg S H dx x) (q : Post K mg E (Rep K mg) S H (oDIn neg dy dx h) Q) : ∃ a o, x = .ref a ∧ DGet H a y o ∧ Q (.bl (if neg then !o.isSome else o.isSome)) H := by
  unfold oDIn at q
  split at q
  · rename_i n
    split at q
    · rename_i kvs k eh ek
      obtain ⟨a, kws, rfl, hm, e3, e4, e5⟩ := dct_at sim rx eh
      have f := find_ok (k := k) e4 e5
      rw [keyD_ok ry ek]
      refine ⟨a, valV kws k, rfl, .inl ⟨kws, k, .inl e3, rfl, rfl⟩, ?_⟩
      have eq : (valV kws k).isSome = (findK kvs k).isSome := by
        cases ef : findK kvs k with
        | none => rw [ef] at f; rw [f]; rfl
        | some x =>
          rw [ef] at f
          obtain ⟨v, f1, _⟩ := f
          rw [f1]
          rfl
      rw [eq]
      exact Post.get (b := V.bl _) q sim rfl
    · exact q.elim
  · exact q.elim
theorem re_din {a b : Expr} {ma mb : EM} (hu : X.A.units + 1 < cLine) (ha : RE X E a ma) (hb : RE X E b mb) (hm : behindInMarks .In b = false := by first | exact nobehind _ (by decide) (by decide) | rfl) : RE X E (.Compare a [.In] [b] pos) (eBin (oDIn false) ma mb) :=
  PE.weak (pe_cmp (pc_din hu ha hb) hm) fun σ H Q ⟨S, ρ, h, sim, env, q⟩ =>
    tG_seq sim env q fun x S1 H1 h1 dx e1 s1 r1 env1 q1 => tG_seq s1 env1 q1 fun y S2 H2 h2 dy e2 s2 r2 env2 q2 => din_ok s2 (Rep.mono s1 e2 _ _ r1) r2 q2
theorem re_dnin {a b : Expr} {ma mb : EM} (hu : X.A.units + 1 < cLine) (ha : RE X E a ma) (hb : RE X E b mb) (hm : behindInMarks .NotIn b = false := by first | exact nobehind _ (by decide) (by decide) | rfl) : RE X E (.Compare a [.NotIn] [b] pos) (eBin (oDIn true) ma mb) :=
  PE.weak (pe_cmp (pc_dnotin hu ha hb) hm) fun σ H Q ⟨S, ρ, h, sim, env, q⟩ =>
    tG_seq sim env q fun x S1 H1 h1 dx e1 s1 r1 env1 q1 => tG_seq s1 env1 q1 fun y S2 H2 h2 dy e2 s2 r2 env2 q2 => din_ok s2 (Rep.mono s1 e2 _ _ r1) r2 q2
theorem rt_din {a b : Expr} {ma mb : EM} (hu : X.A.units + 1 < cLine) (ha : RE X E a ma) (hb : RE X E b mb) (hm : behindInMarks .In b = false := by first | exact nobehind _ (by decide) (by decide) | rfl) : RT X E (.Compare a [.In] [b] pos) (tVal (eBin (oDIn false) ma mb)) :=
  PT.weak (pt_cmp (pc_din hu ha hb) hm) fun σ H Q ⟨S, ρ, h, sim, env, q⟩ =>
    tG_seq sim env (tval_ok sim env q) fun x S1 H1 h1 dx e1 s1 r1 env1 q1 => tG_seq s1 env1 q1 fun y S2 H2 h2 dy e2 s2 r2 env2 q2 => din_ok s2 (Rep.mono s1 e2 _ _ r1) r2 q2
theorem rt_dnin {a b : Expr} {ma mb : EM} (hu : X.A.units + 1 < cLine) (ha : RE X E a ma) (hb : RE X E b mb) (hm : behindInMarks .NotIn b = false := by first | exact nobehind _ (by decide) (by decide) | rfl) : RT X E (.Compare a [.NotIn] [b] pos) (tVal (eBin (oDIn true) ma mb)) :=
  PT.weak (pt_cmp (pc_dnotin hu ha hb) hm) fun σ H Q ⟨S, ρ, h, sim, env, q⟩ =>
    tG_seq sim env (tval_ok sim env q) fun x S1 H1 h1 dx e1 s1 r1 env1 q1 => tG_seq s1 env1 q1 fun y S2 H2 h2 dy e2 s2 r2 env2 q2 => din_ok s2 (Rep.mono s1 e2 _ _ r1) r2 q2
/-- d[y] = v -/
def putD (kvs : List (Key × D)) (k : Key) (v : D) : List (Key × D) :=
  if (kvs.any fun kv => decide (kv.1 = k)) = true then kvs.map (fun kv => if kv.1 = k then (kv.1, v) else kv) else kvs ++ [(k, v)]
def oDPut (d y v : D) (h : PH) : Option PH := match d with
  | .loc n => (match h[n]?, keyD y with
    | some (.dct kvs), some k => if kvs.length < sizeLine then some (h.set n (.dct (putD kvs k v))) else none
    | _, _ => none)
  | _ => none
def sDPutM (mo mi mv : EM) (ρ : Rho) (h : PH) : Out Fl := (mv ρ h).bind fun v h1 => (mo ρ h1).bind fun d h2 => (mi ρ h2).bind fun y h3 => match oDPut d y v h3 with
  | some h4 => .ok (.nx ρ) h4
  | none => .stuck
theorem any_keys {k : Key} : ∀ {kvs : List (Key × D)} {kws : List (Key × V)}, kws.map (·.1) = kvs.map (·.1) → (kws.any fun kv => decide (kv.1 = k)) = kvs.any fun kv => decide (kv.1 = k)
  | [], [], _ => rfl
  | [], _ :: _, e => by cases e
  | _ :: _, [], e => by cases e
  | (k1, d1) :: kvs, (k2, v2) :: kws, e => by
    simp only [List.map_cons, List.cons.injEq] at e
    obtain ⟨e1, e2⟩ := e
    subst e1
    simp only [List.any_cons, any_keys (k := k) e2]
theorem map_put {k : Key} {d : D} {v : V} (rd : Rep K mg S H d v) : ∀ {kvs : List (Key × D)} {kws : List (Key × V)}, kws.map (·.1) = kvs.map (·.1) → Reps K mg S H (kvs.map (·.2)) (kws.map (·.2)) →
    (kws.map fun kv => if kv.1 = k then (kv.1, v) else kv).map (·.1) = (kvs.map fun kv => if kv.1 = k then (kv.1, d) else kv).map (·.1) ∧ Reps K mg S H ((kvs.map fun kv => if kv.1 = k then (kv.1, d) else kv).map (·.2)) ((kws.map fun kv => if kv.1 = k then (kv.1, v) else kv).map (·.2))
  | [], [], _, r => ⟨rfl, r⟩
  | [], _ :: _, e, _ => by cases e
  | _ :: _, [], e, _ => by cases e
  | (k1, d1) :: kvs, (k2, v2) :: kws, e, r => by
    simp only [List.map_cons, List.cons.injEq] at e r
    obtain ⟨e1, e2⟩ := e
    obtain ⟨v', r', e3, q, t⟩ := r
    simp only [List.cons.injEq] at e3
    obtain ⟨e4, e5⟩ := e3
    subst e1 e4 e5
    obtain ⟨i1, i2⟩ := map_put (k := k) rd e2 t
    by_cases z : k2 = k
    · simp only [List.map_cons, if_pos z, i1]
      exact ⟨trivial, _, _, rfl, rd, i2⟩
    · simp only [List.map_cons, if_neg z, i1]
      exact ⟨trivial, _, _, rfl, q, i2⟩
theorem put_ok {k : Key} {d : D} {v : V} (rd : Rep K mg S H d v) {kvs : List (Key × D)} {kws : List (Key × V)} (e : kws.map (·.1) = kvs.map (·.1)) (r : Reps K mg S H (kvs.map (·.2)) (kws.map (·.2))) : (putK kws k v).map (·.1) = (putD kvs k d).map (·.1) ∧ Reps K mg S H ((putD kvs k d).map (·.2)) ((putK kws k v).map (·.2)) := by
  unfold putK putD
  rw [any_keys e]
  split
  · exact map_put rd e r
  · simp only [List.map_append, e, List.map_cons, List.map_nil]
    exact ⟨trivial, r.append (Reps.one rd)⟩
theorem rs_dput {o i value : Expr} {mo mi mv : EM} {pos' : Pos} (hu : X.A.units + 1 < cLine) (ho : RE X E o mo) (hi : RE X E i mi) (hv : RE X E value mv) (hs : swapsWith value (some (.Subscript o i pos')) pos.line X.env = pure false := by rfl) : RS X E (.Assign [.Subscript o i pos'] value pos) (sDPutM mo mi mv) :=
  PS.weak (ps_dput hu ho hi hv hs) fun Dn σ H ⟨S, ρ, h, sim, env, q⟩ =>
    tG_seq sim env q fun v S1 H1 h1 dv e1 s1 r1 env1 q1 => tG_seq s1 env1 q1 fun x S2 H2 h2 dx e2 s2 r2 env2 q2 => tG_seq s2 env2 q2 fun y S3 H3 h3 dy e3 s3 r3 env3 q3 => by
      have rv := Rep.mono s2 e3 _ _ (Rep.mono s1 e2 _ _ r1)
      have rx := Rep.mono s2 e3 _ _ r2
      unfold oDPut at q3
      cases dx with
      | loc n =>
        simp only at q3
        split at q3
        · rename_i h4 eq
          split at eq
          · rename_i kvs k eh ek
            obtain ⟨a, kws, rfl, hm, e4, e5, e6⟩ := dct_at s3 rx eh
            split at eq
            · rename_i hz
              cases eq
              have hl : kws.length = kvs.length := by have := congrArg List.length e5; simpa using this
              have hmem : a ∈ S3.μ := List.mem_of_getElem? hm
              have ew : Ext S3 H3 S3 (upd H3 a (.dK (putK kws k v))) := Ext.write hmem
              obtain ⟨p1, p2⟩ := put_ok (k := k) rv e5 e6
              rw [keyD_ok r3 ek]
              refine ⟨a, _, rfl, DPut.k e4 (by omega), ?_⟩
              exact q3 (.nx σ) S3 _ ew (s3.write hm ⟨_, upd_same, p1, Reps.mono s3 ew _ _ p2⟩) (env3.mono s3 ew)
            · cases eq
          · cases eq
        · exact q3.elim
      | _ => exact q3.elim
/-- sorted(d) of a dict with int keys -/
def intK : Key → Option Int
  | .inl i => some i
  | .inr _ => none
def fSortD (fz : Bool) (ds : List D) (h : PH) : Out D := match ds with
  | [.loc n] => (match h[n]? with
    | some (.dct kvs) => (match optAll intK (kvs.map (·.1)) with
      | some ks => if ks.length < 64 then mkL fz ((sortI ks).map .int) h else .stuck
      | none => .stuck)
    | _ => .stuck)
  | _ => .stuck
theorem intKs {l : List Key} {ks : List Int} (e : optAll intK l = some ks) : l = ks.map Sum.inl := by
  induction l generalizing ks with
  | nil => cases e; rfl
  | cons k l ih =>
    obtain ⟨b, cs, rfl, e1, e2⟩ := optAll_cons e
    cases k with
    | inl i => cases e1; rw [ih e2]; rfl
    | inr x => cases e1
def rSortD (K : PySem.W.Frag) : List V → Hp → VK → Prop := fun xs H Q => ∃ (a : Addr) (kvs : List (Key × V)) (ks : List Int), xs = [.ref a] ∧ Rd H a (.dK kvs) ∧ kvs.map (·.1) = ks.map Sum.inl ∧ ks.length < 64 ∧ ∀ (ys : List Int) (p : Addr), ys.Perm ks → ys.Pairwise (· ≤ ·) → H p = none → Q (.ref p) (upd H p (.lst (ys.map V.int)))
theorem call_sortD {X : Cx} (hc : X.calm = true) : CallR X (.builtin "sorted") (rSortD X.K) := call_sortedDI hc
theorem cs_sortD {E : XK} {fz : Bool} : CallS K mg E (rSortD K) (fSortD fz) := fun S H h xs ds Q sim r q => by
  unfold fSortD at q
  split at q
  · obtain ⟨x, rfl, rx⟩ := r.one_inv
    split at q
    · rename_i kvs eh
      split at q
      · rename_i ks ek
        split at q
        · rename_i h64
          obtain ⟨a, kws, rfl, hm, e4, e5, e6⟩ := dct_at sim rx eh
          refine ⟨a, kws, ks, rfl, .inl e4, by rw [e5, intKs ek], h64, fun ys p hp hs np => ?_⟩
          rw [sortI_eq hp hs]
          exact mkL_ok sim (reps_ints _) q np
        · exact q.elim
      · exact q.elim
    · exact q.elim
  · exact q.elim
end
end R
namespace R
open PySem PySem.Spec PyProof.Rows L2
/-! ### a call of a local name that holds a def -/
def ofFn (o : Option (List D → Res)) (as : AM) (ρ : Rho) (h : PH) : Out D := match o with
  | some m => (as ρ h).bind (runP m)
  | none => .stuck
def eCallL (i : Nat) (c : Str → Option (List D → Res)) (as : AM) (ρ : Rho) (h : PH) : Out D := match ρ[i]? with
  | some (some (.gl x)) => ofFn (c x) as ρ h
  | _ => .stuck
section
variable {X : Cx} {E : XK} {pos p : Pos} {e : Expr} {es : List Expr} {mas : AM} {x : Str} {i k : Nat} {ps : List Str}
theorem re_callL {c : Str → Option (List D → Res)} (G : ∀ y m, c y = some m → ∃ ps k, KnP X.prog X.w X.K X.mg X.base y k ps m ∧ Room k X.A) (co : Cok X E) (hN : X.N[i]? = some x) (hv : Vis X.env.scope x) (ha : RA X E (e :: es) mas)
    (hdb : (x == ("__debug__" : Str)) = false := by decide) (hcd : (x == ("__classdict__" : Str)) = false := by decide)
    (he : starEach (e :: es) X.env = (false, eval e X.env) :: starEach es X.env := by rfl) (hpl : (backTo pos (starEach es X.env)).any (·.1) = false := by rfl) : RE X E (.Call (.Name x p) (e :: es) [] pos) (eCallL i c mas) := by
  refine ⟨fun pins s σ H Q I ⟨S, ρ, h, sim, env, q⟩ => ?_⟩
  unfold eCallL at q
  split at q
  · rename_i y ey
    unfold ofFn at q
    split at q
    · rename_i m em
      obtain ⟨ps, k, ⟨G1, G2⟩, hr⟩ := G y m em
      obtain ⟨f, fd, F, hm, hk, hb⟩ := G1.ex
      obtain ⟨v, ev, rv⟩ := env.2 i _ ey
      obtain ⟨f', hf', rfl⟩ := rv
      rw [hm] at hf'
      cases hf'
      refine (pe_callL (p := p) (i := i) (f := f) (dvs := []) F hr hN hv hk hb .nil co.pass ha hdb hcd he hpl).run pins s σ H Q I ⟨ev, ?_⟩
      exact tG_seq sim env q fun z S1 H1 h1 dx e1 s1 r1 env1 q1 => by
        rw [List.append_nil]
        obtain ⟨ds, rs, pq⟩ := runP_read s1 r1 q1
        refine ⟨?_, ds, rs, pq⟩
        rcases G2 ds with z | z
        · rw [z] at pq; exact pq.elim
        · rw [rs.length]; exact z
    · exact q.elim
  · exact q.elim
theorem re_glP {m : List D → Res} (G : KnP X.prog X.w X.K X.mg X.base x k ps m) (hg : Gl X x) (hd : (x == ("__debug__" : Str)) = false := by decide) : RE X E (.Name x pos) (eC (.gl x)) :=
  let ⟨_, _, _, hm, _, _⟩ := G.1.ex
  re_gl hg hm hd
end
end R
/-! try: .. except X as n: y = n, the exception kept as a value -/
namespace L2
open PySem PySem.Spec PyProof.Rows
theorem exK_ok {P : Program} {w : World} {H : Hp} {h : Heap} {a C : Addr} {oe : Obj} {vs : Array Value} (e : h.get? a = some oe) {dd : Option Addr} (z : Zc (.ref C) dd oe) (d : oe.data = .fields vs) : ObjOk P w H h a (R.ExO C a dd) := by
  cases dd with
  | none => exact ⟨⟨oe, vs, e, z, d⟩, ⟨oe, e⟩, fun _ _ ⟨o, v, q, r⟩ k => ⟨o, v, k o q, r⟩⟩
  | some x => exact ⟨⟨oe, vs, e, z, d⟩, ⟨oe, e⟩, fun _ _ ⟨o, v, q, r⟩ k => ⟨o, v, k o q, r⟩⟩
section
variable {X : Cx} {pins : List (Addr × Obj)} {σ : St} {H : Hp} {s : Shared}
/-- an object that came since the entry is tracked from now on -/
theorem Inv.adopt {a C : Addr} {oe : Obj} {vs : Array Value} (I : Inv X pins σ H s) (e : s.heap.get? a = some oe) {dd : Option Addr} (z : Zc (.ref C) dd oe) (d : oe.data = .fields vs) (hn : H a = none) (n0 : X.s_0.heap.get? a = none) (nL : a ≠ X.env.locals)
    (nC : ∀ x c, X.env.cells.lookup x = some c → c ≠ a) (nP : ∀ p ∈ X.pn ++ pins, p.1 ≠ a) : Inv X pins σ (upd H a (R.ExO C a dd)) s := by
  have ne0 : ∀ b o, X.s_0.heap.get? b = some o → b ≠ a := fun b o q w => by rw [w, n0] at q; cases q
  have neH : ∀ b o, H b = some o → b ≠ a := fun b o q w => by rw [w, hn] at q; cases q
  refine ⟨I.ok, I.os, I.bare, ⟨I.base.keep, I.base.slot, fun b o q n hq => ?_, I.base.there, fun b xs q => ?_, fun b o u q => ?_, fun b ps q => ?_⟩, I.loc, I.cell, ?_, fun x c q => ?_, fun p hp => ?_, ?_, I.len⟩
  · rw [upd_ne (ne0 b o q)]
    exact I.base.free b o q n hq
  · have r := I.base.tups b xs q
    rw [upd_ne (neH b _ r)]
    exact r
  · have r := I.base.frzs b o u q
    rw [upd_ne (neH b _ r)]
    exact r
  · obtain ⟨m, r⟩ := I.base.tbls b ps q
    exact ⟨m, by rw [upd_ne (neH b _ r)]; exact r⟩
  · rw [upd_ne (fun w => nL w.symm)]
    exact I.free
  · rw [upd_ne (nC x c q)]
    exact I.freeC x c q
  · obtain ⟨p1, p2, p3, p4, p5⟩ := I.pin p hp
    exact ⟨p1, by rw [upd_ne (nP p hp)]; exact p2, p3, p4, p5⟩
  · exact I.hok.laidN (fun _ _ q => q) hn (exK_ok e z d)
/-- what the clause 'except x as n' wishes; behind the suite the exception is tracked -/
def wKeep (K : PySem.W.Frag) (c : Value) (i : Nat) (ts : Addr → Value → Option Addr → TS) (Wout : WX) (D : Ends) : WX := fun cls d σ H =>
  ∃ b, PySem.W.exmOne K cls c = some b ∧ (b = true → ∃ C, cls = .ref C ∧ ∀ a, H a = none → ts a cls d { nx := fun σ' H' => H' a = none → D.nx (σ'.set i none) (upd H' a (R.ExO C a d)), rt := fun _ _ => False, bk := fun _ _ => False, ct := fun _ _ => False } (σ.set i (some (.ref a))) H) ∧
    (b = false → Wout cls d σ H)
end
section
variable {X : Cx} {x n : Str} {c : Value} {i : Nat} {body suite : List Stmt} {b₀ : Stmt} {np pos pos' : Pos} {tb : WX → TS} {ts : Addr → Value → Option Addr → TS} {Wout : WX}
theorem ps_try_keep (hs : X.stack = X.env :: X.outer) (hf : X.env.frame = some X.env.locals) (hx : X.ex = []) (hN : X.N.Nodup) (hi : X.N[i]? = some n) (hln : X.env.kindOf n = some .local) (hc : Names X x c) (tk : Takes X Wout)
    (hb : ∀ (W : WX) (pn : List (Addr × Obj)) (xe : Value → Shared → Prop), Takes (X.tr pn xe) W → PassesOwn (model X.prog X.w) X.A X.env xe → PSs (X.tr pn xe) body (tb W))
    (hsu : ∀ (a : Addr) (oe : Obj) (cls : Value) (d : Option Addr) (pn : List (Addr × Obj)), Zc cls d oe → (∃ vs, oe.data = .fields vs) → PSs (X.suite a ((a, oe) :: pn)) (b₀ :: suite) (ts a cls d)) :
    PS X (.Try body [.ExceptHandler (some (.Name x np)) (some n) (b₀ :: suite) pos'] [] [] pos) (fun D σ H => tb (wKeep X.K c i ts Wout D) D σ H) := by
  refine ⟨fun pins s σ H D I h => ?_⟩
  have ok := I.ok
  have hfr : X.A.frames = some (X.env :: X.outer) := by rw [ok.frames, hs]
  have hloc : Loc X.env.scope n := .inl hln
  refine wpAny_Try_except ?_
  refine wpAny_mono ((hb (wKeep X.K c i ts Wout D) (X.pn ++ pins) (fun e s₁ => wpAny (model X.prog X.w) X.A (noteFrame e X.env) (fun _ s₂ => wpAny (model X.prog X.w) X.A (setFlight e none) (fun _ s₃ =>
    wpAny (model X.prog X.w) X.A (handleBy e X.env [.ExceptHandler (some (.Name x np)) (some n) (b₀ :: suite) pos']) (SP X pins D) X.xe s₃) X.xe s₂) X.xe s₁) (fun u s' xx => ?_) PassesOwn.looking).run [] s σ H D (I.toTry _) h) (fun f s1 hsp => ?_) (fun e s1 he => he)
  · obtain ⟨a, B, sI, pins', σ', H', cls, d, rfl, J', nb, up, sky, na, os, ag, b, hb1, hyes, hno⟩ := xx
    have J : Inv X pins σ' H' sI := J'.ofTry ok
    have sky' : Sky B (X.env :: X.outer) a (Zc cls d) X.env.locals s'.heap := by rw [← hs]; exact sky
    show wpAny (model X.prog X.w) X.A (noteFrame (.ref a) X.env) _ _ _
    refine Sky.land Zc.steady hfr hf sky' fun h3 fl3 up3 => ?_
    have J3 : Inv X pins σ' H' { s' with heap := h3 } := J.landed nb fl3.1 (up.trans up3) os ag
    obtain ⟨oe3, vs3, he3, hz3, hd3⟩ := fl3.there
    have notFr : ∀ {h : Heap} {o : Obj} {vs : Array Value}, h.FunFrames B (X.env :: X.outer) → h.get? a = some o → o.data = .fields vs → a ∉ frs (X.env :: X.outer) := fun {h o vs} ff e dd hm => by
      obtain ⟨_, o', e', hnf⟩ := ff.mem hm
      rw [e] at e'; cases e'
      exact hnf _ dd
    have nfr := notFr fl3.2.2.1 he3 hd3
    have nL : a ≠ X.env.locals := fun z => nfr (List.mem_filterMap.mpr ⟨X.env, List.mem_cons_self, by rw [hf, z]⟩)
    have nF : a ∉ X.fs := fun hm => by
      obtain ⟨e, he, q⟩ := List.mem_filterMap.mp hm
      exact nfr (List.mem_filterMap.mpr ⟨e, List.mem_cons_of_mem _ he, q⟩)
    have nI : sI.heap.get? a = none := by
      cases q : sI.heap.get? a with
      | none => rfl
      | some o =>
        have z := nb a o q (by rw [hs]; exact nfr)
        have z2 := fl3.2.1
        rw [z] at z2; cases z2
    have n0 : X.s_0.heap.get? a = none := by
      cases q : X.s_0.heap.get? a with
      | none => rfl
      | some o =>
        obtain ⟨o', z⟩ := J.base.there a o q (by rw [hx]; exact fun z => nomatch z)
        rw [nI] at z; cases z
    have nC : ∀ x c, X.env.cells.lookup x = some c → c ≠ a := fun x c q w => by
      obtain ⟨v, o, z, _⟩ := J.cell x c q
      rw [w, nI] at z; cases z
    have nP : ∀ p ∈ X.pn ++ pins, p.1 ≠ a := fun p hp w => by
      have z := (J.pin p hp).1
      rw [w, nI] at z; cases z
    have S3 := J3.suite he3 hd3 na nL nF
    refine wpAny_handleBy_cons (codeAny_handlers_test ?_) (by intro q; cases q)
    have LT : PySem.W.Looks (model X.prog X.w) h3 (typeOf (.ref a)) cls := fun A Q E s k q => wpAny_typeOf_ref (k _ _ he3) (by rw [hz3.1]; exact q)
    have LM := PySem.W.exm_one (M := model X.prog X.w) (J3.kIn) LT hb1
    have test : ∀ {Q : Value → Shared → Prop} {E : Value → Shared → Prop}, Q c { s' with heap := h3 } → wpAny (model X.prog X.w) (X.A.mark (some (.ref a))) (eval (.Name x np) X.env) Q E { s' with heap := h3 } := fun {Q E} q => by
      obtain ⟨hg, hdbg, hm | ⟨hm, hv, hnn⟩⟩ := hc
      · exact ld_glob (X := X.suite a ((a, oe3) :: (X.pn ++ pins))) S3 hg hm q hdbg
      · exact ld_blt (X := X.suite a ((a, oe3) :: (X.pn ++ pins))) S3 hg hm hv q hnn hdbg
    refine test (LM.here ?_)
    cases b with
    | true =>
      obtain ⟨C, rfl, hts⟩ := hyes rfl
      refine codeAny_handlers_suite_as ?_
      refine HandSPX.lands_againZ fl3 fun h4 fl4 up4 => ?_
      have J4 : Inv X pins σ' H' { s' with heap := h4 } := J.landed nb fl4.1 ((up.trans up3).trans up4) os ag
      obtain ⟨oe4, vs4, he4, hz4, hd4⟩ := fl4.there
      have S4 := J4.suite he4 hd4 na nL nF
      refine store_ok (X := X.suite a ((a, oe4) :: (X.pn ++ pins))) (v := .ref a) S4 hN hi hloc rfl (fun s5 S5 => ?_) (.inr hln)
      refine wpAny_mono ((hsu a oe4 (.ref C) d (X.pn ++ pins) hz4 ⟨_, hd4⟩).run [] s5 _ H' _ S5 (hts a na)) (fun f s6 hsp => ?_) (fun _ _ z => False.elim z)
      cases f with
      | next =>
        obtain ⟨σ6, H6, S6, q6⟩ := hsp
        refine gone_ok (X := X.suite a ((a, oe4) :: (X.pn ++ pins))) S6 hN hi hln fun s7 S7 => ?_
        obtain ⟨p1, p2, p3, p4, _⟩ := S7.pin (a, oe4) (List.mem_append.mpr (.inl List.mem_cons_self))
        have J7 : Inv X pins (σ6.set i none) H6 s7 := S7.unsuite ok
        exact ⟨_, _, J7.adopt p1 hz4 hd4 p2 n0 nL nC nP, q6 p2⟩
      | brk =>
        obtain ⟨σ6, H6, S6, q6⟩ := hsp
        exact False.elim q6
      | cont =>
        obtain ⟨σ6, H6, S6, q6⟩ := hsp
        exact False.elim q6
      | ret u =>
        obtain ⟨v6, σ6, H6, S6, r6, q6⟩ := hsp
        exact False.elim q6
    | false =>
      show wpAny _ X.A (handleBy (.ref a) X.env []) _ _ _
      refine wpAny_handleBy_nil ?_
      obtain ⟨k1, k2, k3, oe, vs, T, oT, ts', he, hz, hd, h1, hr⟩ := id fl3
      unfold PySem.passOn
      refine wpAny_bind (wpAny_field he hd h1 ?_)
      rw [if_neg (show ¬ ((Value.ref T == Value.none) = true) from by simp)]
      have fin : wpAny (model X.prog X.w) X.A (setFlight (.ref a) X.env.frame) (fun _ s4 => wpAny (model X.prog X.w) X.A (throw (.ref a) : Sem Flow) (SP X pins D) X.xe s4) X.xe { s' with heap := h3 } := by
        rw [hf]
        refine HandSPX.setFlight_upZ fl3 fun h4 hh4 up4 => wpAny_throw (tk _ _ ?_)
        exact ⟨a, B, sI, pins, σ', H', cls, d, rfl, J, nb, (up.trans up3).trans up4, .inr (.inr (by rw [hs]; exact hh4)), na, os, ag, hno rfl⟩
      first
        | exact wpAny_bind (wpAny_pure (wpAny_bind fin))
        | exact wpAny_bind fin
  · cases f with
    | next =>
      obtain ⟨σ', H', J', q⟩ := hsp
      exact wpAny_execs_nil ⟨σ', H', J'.ofTry ok, q⟩
    | brk =>
      obtain ⟨σ', H', J', q⟩ := hsp
      exact ⟨σ', H', J'.ofTry ok, q⟩
    | cont =>
      obtain ⟨σ', H', J', q⟩ := hsp
      exact ⟨σ', H', J'.ofTry ok, q⟩
    | ret u =>
      obtain ⟨v, σ', H', J', r, q⟩ := hsp
      exact ⟨v, σ', H', J'.ofTry ok, r, q⟩
end
end L2
namespace R
open PySem PySem.Spec PyProof.Rows L2
/-! ### own classes of exceptions -/
/-- one class under another one, in this program -/
def subE (x y : Str) : Bool := decide (x = y) || decide (y = "MostError")
structure ExcA (K : PySem.W.Frag) (mg : Str → Option Value) (cs : List Str) : Prop where
  cls : ∀ x ∈ cs, ∃ C, mg x = some (.ref C) ∧ ExcC K C
  kit : ∀ x ∈ cs, ∀ y ∈ cs, ∀ C D, mg x = some (.ref C) → mg y = some (.ref D) → PySem.W.kitOne K (.ref C) (.ref D) = some (subE x y) ∧ PySem.W.exmOne K (.ref C) (.ref D) = some (subE x y)
  ve : ∀ x ∈ cs, ∀ C, mg x = some (.ref C) → PySem.W.kitOne K (.ref C) (.type "ValueError") = some true
/-- isinstance of a kept exception -/
def rIsE1 (K : PySem.W.Frag) : List V → Hp → VK → Prop := fun xs H Q => ∃ (a D : Addr) (c : V) (cv : Value) (b : Bool), xs = [.ref a, c] ∧ ExAt H D a ∧ ExcC K D ∧ ClsV c cv ∧ PySem.W.kitOne K (.ref D) cv = some b ∧ Q (.bl b) H
def rIsET (K : PySem.W.Frag) : List V → Hp → VK → Prop := fun xs H Q => ∃ (a D tp : Addr) (cs : List V) (us : List Value) (b : Bool), xs = [.ref a, .ref tp] ∧ ExAt H D a ∧ ExcC K D ∧ TupZ H tp cs ∧ Paired ClsV cs us ∧ PySem.W.kitAny K (.ref D) us = some b ∧ Q (.bl b) H
theorem exk_inst {X : Cx} {pins : List (Addr × Obj)} {σ : L2.St} {H : Hp} {s : Shared} {a D : Addr} (I : Inv X pins σ H s) (e : ExAt H D a) : ∃ oe od, PySem.W.InstAt s.heap a oe D od := by
  rcases e with e | ⟨dd, fs, e, u⟩
  · obtain ⟨⟨oe, vs, h1, h2, h3⟩, _⟩ := (show ObjOk X.prog X.w H s.heap a (ExK D a) from I.hok a _ e)
    exact ⟨oe, none, h1, h2.1, by unfold PySem.W.notCls; rw [h3] <;> rfl, by rw [h2.2]; trivial⟩
  · obtain ⟨⟨oe, vs, h1, h2, h3⟩, _⟩ := (show ObjOk X.prog X.w H s.heap a (ExD D a dd) from I.hok a _ e)
    have hx : ObjOk X.prog X.w H s.heap dd (.xd fs) := I.hok dd _ u
    obtain ⟨mA, hns, hr⟩ := hx
    obtain ⟨od, ho, _⟩ := lookIn_ns hns
    exact ⟨oe, some od, h1, h2.1, by unfold PySem.W.notCls; rw [h3] <;> rfl, by rw [h2.2]; exact ho⟩
theorem dict_cls {K : PySem.W.Frag} {D : Addr} (h : PySem.W.hasDictIn K D = true) : (PySem.W.clsIn K D).isSome = true := by
  unfold PySem.W.hasDictIn at h
  cases e : PySem.W.clsIn K D with
  | none => rw [e] at h; cases h
  | some _ => rfl
theorem call_isE1 {X : Cx} : CallR X (.builtin "isinstance") (rIsE1 X.K) := by
  intro pins s σ H xs us Q I r h
  obtain ⟨a, D, c, cv, b, rfl, ea, C, k, e, q⟩ := h
  obtain ⟨u1, u2, rfl, r1, r2⟩ := vals2 r
  cases (show u1 = Value.ref a from r1)
  have e2 := k.eq r2
  subst e2
  obtain ⟨oe, od, J⟩ := exk_inst I ea
  exact PySem.W.kia_one (PySem.W.kitx_exc (dict_cls C.hd) C.hg C.hk C.hs C.ha C.hn C.ht C.hm) I.kIn J e (fun z => nomatch z) fun tk => ⟨.bl b, H, I.tok tk, rfl, q⟩
theorem call_isET {X : Cx} : CallR X (.builtin "isinstance") (rIsET X.K) := by
  intro pins s σ H xs us Q I r h
  obtain ⟨a, D, tp, cs, ws, b, rfl, ea, C, hT, k, e, q⟩ := h
  obtain ⟨u1, u2, rfl, r1, r2⟩ := vals2 r
  cases (show u1 = Value.ref a from r1)
  cases (show u2 = Value.ref tp from r2)
  obtain ⟨oe, od, J⟩ := exk_inst I ea
  obtain ⟨its, rv, ⟨o, h1, h2, n, h3⟩, _⟩ := I.tuple hT.sq
  have e3 := ClsV.all k rv
  subst e3
  obtain ⟨oc, od, dt, sl⟩ := o
  simp only at h2 h3
  subst h2 h3
  exact PySem.W.kia_tup (PySem.W.kitx_exc (dict_cls C.hd) C.hg C.hk C.hs C.ha C.hn C.ht C.hm) I.kIn J h1 e (fun z => nomatch z) fun tk => ⟨.bl b, H, I.tok tk, rfl, q⟩
def rIsA (K : PySem.W.Frag) : List V → Hp → VK → Prop := fun xs H Q => rIsi K xs H Q ∨ rIsE1 K xs H Q ∨ rIsET K xs H Q
theorem call_isA {X : Cx} : CallR X (.builtin "isinstance") (rIsA X.K) := by
  intro pins s σ H xs us Q I r h
  rcases h with h | h | h
  · exact call_isi pins s σ H xs us Q I r h
  · exact call_isE1 pins s σ H xs us Q I r h
  · exact call_isET pins s σ H xs us Q I r h
@[simp] def asGl : D → Option Str
  | .gl x => some x
  | _ => none
/-- isinstance where exceptions may be held -/
def fIsiX (cs : List Str) (ds : List D) (h : PH) : Out D := match ds with
  | [.exn x, .ty .verr] => if cs.contains x then .ok (.bl true) h else .stuck
  | [.exn x, .gl y] => if cs.contains x && cs.contains y then .ok (.bl (subE x y)) h else .stuck
  | [.exn x, .tup ys] => (match optAll asGl ys with
    | some zs => if cs.contains x && zs.all cs.contains then .ok (.bl (zs.any (subE x))) h else .stuck
    | none => .stuck)
  | ds => fIsi ds h
section
variable {K : PySem.W.Frag} {mg : Str → Option Value} {E : XK}
theorem gls_ok {S : Sx} {H : Hp} {cs : List Str} (xa : ExcA K mg cs) {x : Str} (hx : x ∈ cs) {C : Addr} (gC : mg x = some (.ref C)) : ∀ {ys : List D} {vs : List V} {zs : List Str}, Reps K mg S H ys vs → optAll asGl ys = some zs → zs.all cs.contains = true → ∃ us, Paired ClsV vs us ∧ PySem.W.kitAny K (.ref C) us = some (zs.any (subE x))
  | [], vs, zs, r, e, _ => by
    cases e
    have r : vs = [] := r
    subst r
    exact ⟨[], .nil, rfl⟩
  | d :: ys, vs, zs, r, e, a => by
    obtain ⟨z, zs, rfl, e1, e2⟩ := optAll_cons e
    obtain ⟨v, vs, rfl, q, t⟩ := r
    simp only [List.all_cons, Bool.and_eq_true] at a
    obtain ⟨us, p, ka⟩ := gls_ok xa hx gC t e2 a.2
    cases d with
    | gl y =>
      have ez : y = z := by simpa using e1
      subst ez
      obtain ⟨f, hf, rfl⟩ := q
      have hy : y ∈ cs := by simpa using a.1
      have k1 := (xa.kit x hx y hy C f gC hf).1
      refine ⟨.ref f :: us, .cons (.own f) p, ?_⟩
      refine kitAny_cons k1 (fun hb => ?_) fun hb => ?_
      · rw [ka, List.any_cons, hb, Bool.false_or]
      · rw [List.any_cons, hb, Bool.true_or]
    | _ => simp at e1
theorem cs_isiX {cs : List Str} (xa : ExcA K mg cs) : CallS K mg E (rIsA K) (fIsiX cs) := fun S H h xs ds Q sim r q => by
  unfold fIsiX at q
  split at q
  · rename_i x
    split at q
    · rename_i hx
      have hx : x ∈ cs := by simpa using hx
      obtain ⟨u, v, rfl, ru, rv⟩ := Reps.two_inv r
      obtain ⟨a, C, rfl, gC, ea⟩ := ru
      have rv : v = .ty "ValueError" := rv
      subst rv
      obtain ⟨C', gC', ec⟩ := xa.cls x hx
      rw [gC] at gC'
      cases gC'
      exact .inr (.inl ⟨a, C, _, _, true, rfl, ea, ec, .ty _, xa.ve x hx C gC, Post.get (b := V.bl _) q sim rfl⟩)
    · exact q.elim
  · rename_i x y
    split at q
    · rename_i hx
      simp only [Bool.and_eq_true] at hx
      have hx1 : x ∈ cs := by simpa using hx.1
      have hx2 : y ∈ cs := by simpa using hx.2
      obtain ⟨u, v, rfl, ru, rv⟩ := Reps.two_inv r
      obtain ⟨a, C, rfl, gC, ea⟩ := ru
      obtain ⟨f, gf, rfl⟩ := rv
      obtain ⟨C', gC', ec⟩ := xa.cls x hx1
      rw [gC] at gC'
      cases gC'
      exact .inr (.inl ⟨a, C, _, _, _, rfl, ea, ec, .own f, (xa.kit x hx1 y hx2 C f gC gf).1, Post.get (b := V.bl _) q sim rfl⟩)
    · exact q.elim
  · rename_i x ys
    split at q
    · rename_i zs ez
      split at q
      · rename_i hx
        simp only [Bool.and_eq_true] at hx
        have hx1 : x ∈ cs := by simpa using hx.1
        obtain ⟨u, v, rfl, ru, rv⟩ := Reps.two_inv r
        obtain ⟨a, C, rfl, gC, ea⟩ := ru
        obtain ⟨tp, vs, rfl, ht, rr⟩ := rv
        obtain ⟨C', gC', ec⟩ := xa.cls x hx1
        rw [gC] at gC'
        cases gC'
        obtain ⟨us, p, ka⟩ := gls_ok xa hx1 gC rr ez hx.2
        exact .inr (.inr ⟨a, C, tp, vs, us, _, rfl, ea, ec, ht, p, ka, Post.get (b := V.bl _) q sim rfl⟩)
      · exact q.elim
    · exact q.elim
  · exact .inl (cs_isi S H h xs ds Q sim r q)
end
section
variable {X : Cx} {E : XK} {pos : Pos}
theorem re_glX {cs : List Str} {x : Str} (xa : ExcA X.K X.mg cs) (hx : x ∈ cs) (hg : Gl X x) (hd : (x == ("__debug__" : Str)) = false := by decide) : RE X E (.Name x pos) (eC (.gl x)) :=
  let ⟨_, h, _⟩ := xa.cls x hx
  re_gl hg h hd
end
/-! ### the body of a try: the exception is known at the slots -/
section
variable (X : Cx) (W : WX)
def REx (e : Expr) (m : EM) : Prop := PE X e (fun σ H Q => tG X.K X.mg (WE W σ) (Rep X.K X.mg) m σ H Q)
def RSx (st : Stmt) (m : SM) : Prop := PS X st (fun D σ H => tG X.K X.mg (WE W σ) (relF X.K X.mg) m σ H (endQ D))
def RSsx (st : List Stmt) (m : SM) : Prop := PSs X st (fun D σ H => tG X.K X.mg (WE W σ) (relF X.K X.mg) m σ H (endQ D))
end
section
variable {X : Cx} {W : WX} {pos p : Pos} {e : Expr} {es : List Expr} {mas : AM} {me : EM} {m1 m2 : SM} {x : Str} {k : Nat} {ps : List Str} {st : Stmt}
theorem pa_all (ha : ∀ E, RA X E es mas) : PA X es (fun σ H Q => tG X.K X.mg (WE W σ) (Reps X.K X.mg) mas σ H Q) := ⟨fun pos pins s σ H Q I h => (ha (WE W σ)).run pos pins s σ H Q I h⟩
theorem pt_all {tc : TM} (ha : ∀ E, RT X E e tc) : PT X e (fun σ H Q => tG X.K X.mg (WE W σ) relEq tc σ H Q) := ⟨fun pins s σ H Q I h => (ha (WE W σ)).run pins s σ H Q I h⟩
theorem rex_cP {m : List D → Res} (G : KnP X.prog X.w X.K X.mg X.base x k ps m) (tk : Takes X W) (hr : Room k X.A) (hg : Gl X x) (ha : ∀ E, RA X E (e :: es) mas)
    (hdb : (x == ("__debug__" : Str)) = false := by decide) (he : starEach (e :: es) X.env = (false, eval e X.env) :: starEach es X.env := by rfl) (hpl : (backTo pos (starEach es X.env)).any (·.1) = false := by rfl) :
    REx X W (.Call (.Name x p) (e :: es) [] pos) (eCallP m mas) :=
  let ⟨f, fd, F, hm, hk, hb⟩ := G.1.ex
  PE.weak (pe_callS F hr hg hm hk hb (fun σ => passAt tk σ) (pa_all ha) hdb he hpl) fun σ H Q ⟨S, ρ, h, sim, env, q⟩ => tG_seq sim env q fun y S1 H1 h1 dx e1 s1 r1 env1 q1 => by
    obtain ⟨ds, rs, pq⟩ := runP_read s1 r1 q1
    refine ⟨?_, ds, rs, pq⟩
    rcases G.2 ds with z | z
    · rw [z] at pq; exact pq.elim
    · rw [rs.length]; exact z
theorem rsx_expr (he : REx X W e me) (hs : swapsWith e none pos.line X.env = pure false := by rfl) : RSx X W (.Expr e pos) (sExpr me) :=
  PS.weak (ps_expr he hs) fun D σ H ⟨S, ρ, h, sim, env, q⟩ => tG_seq sim env q fun x S1 H1 h1 dx e1 s1 r1 env1 q1 => Post.get (b := VF.nx σ) q1 s1 env1
theorem rsx_set (i : Nat) {x : Str} {pos' : Pos} (nd : X.N.Nodup) (he : REx X W e me) (hi : X.N[i]? = some x := by rfl) (hx : Loc X.env.scope x := by first | exact Or.inl rfl | exact Or.inr rfl) (hs : swapsWith e (some (.Name x pos')) pos.line X.env = pure false := by rfl)
    (hf : X.fn x = true ∨ X.env.scope.names.lookup x = some .local := by first | exact .inl rfl | exact .inr rfl | assumption) : RSx X W (.Assign [.Name x pos'] e pos) (sSet i me) :=
  PS.weak (ps_set nd hi hx he hs hf) fun D σ H ⟨S, ρ, h, sim, env, q⟩ => tG_seq sim env q fun x S1 H1 h1 dx e1 s1 r1 env1 q1 => Post.get (b := VF.nx (σ.set i (some x))) q1 s1 (env1.set r1)
theorem rsx_if {c : Expr} {a b : List Stmt} {tc : TM} (hc : ∀ E, RT X E c tc) (ha : RSsx X W a m1) (hb : RSsx X W b m2) : RSx X W (.If c a b pos) (sIf tc m1 m2) :=
  PS.weak (ps_if (pt_all (W := W) hc) ha hb) fun D σ H ⟨S, ρ, h, sim, env, q⟩ => tG_seq sim env q fun k S1 H1 h1 k' e1 s1 r1 env1 q1 => by
    have r1 : k' = k := r1
    subst r1
    cases k' with
    | true => rw [if_pos rfl]; exact ⟨S1, ρ, h1, s1, env1, q1⟩
    | false => rw [if_neg Bool.false_ne_true]; exact ⟨S1, ρ, h1, s1, env1, q1⟩
theorem rssx_one (h1 : RSx X W st m1) : RSsx X W [st] m1 := pss_one h1
/-- try: body / except cls as n: y = n -/
def sTryK (cs : List Str) (cls : Str) (j i : Nat) (m : SM) (ρ : Rho) (h : PH) : Out Fl := match m ρ h with
  | .ok f h' => .ok f h'
  | .exc e h' => if e.line.isNone && cs.contains e.cls && decide (i < ρ.length) then (if subE e.cls cls then .ok (.nx ((ρ.set j (some (.exn e.cls))).set i none)) h' else .exc e h') else .stuck
  | .stuck => .stuck
theorem rs_tryK {E : XK} {cls y n : Str} {i j : Nat} {body : List Stmt} {m : SM} {cs : List Str} {np pn pa pos' py : Pos} (c : Cok X E) (xa : ExcA X.K X.mg cs) (hcs : cls ∈ cs) (hs : X.stack = X.env :: X.outer) (hf : X.env.frame = some X.env.locals) (hx : X.ex = [])
    (hi : X.N[i]? = some n) (hj : X.N[j]? = some y) (hln : X.env.kindOf n = some .local) (hly : Loc X.env.scope y) (hfy : X.fn y = true ∨ X.env.scope.names.lookup y = some .local) (hvn : Vis X.env.scope n) (hg : Gl X cls) (hij : i ≠ j) (hdn : (n == ("__debug__" : Str)) = false) (hdc : (n == ("__classdict__" : Str)) = false)
    (hdl : (cls == ("__debug__" : Str)) = false) (hsw : ∀ a pn2, swapsWith (.Name n pn) (some (.Name y py)) pa.line (X.suite a pn2).env = pure false)
    (hb : ∀ (W : WX) (pn : List (Addr × Obj)) (xe : Value → Shared → Prop), Takes (X.tr pn xe) W → RSsx (X.tr pn xe) W body m) :
    RS X E (.Try body [.ExceptHandler (some (.Name cls np)) (some n) [.Assign [.Name y py] (.Name n pn) pa] pos'] [] [] pos) (sTryK cs cls j i m) := by
  obtain ⟨C0, gC0, _⟩ := xa.cls cls hcs
  have base := ps_try_keep (X := X) (x := cls) (n := n) (c := .ref C0) (i := i) (body := body) (np := np) (pos := pos) (pos' := pos') (b₀ := .Assign [.Name y py] (.Name n pn) pa) (suite := [])
    (tb := fun W D σ H => tG X.K X.mg (WE W σ) (relF X.K X.mg) m σ H (endQ D)) (ts := fun a cls d => tAsg (tVar i) (gName j)) (Wout := fun c d _ H => E c d H)
    hs hf hx c.nd hi hln ⟨hg, hdl, .inl gC0⟩ c.take (fun W pn xe tk _ => hb W pn xe tk) (fun a oe cls d pn2 _ _ => pss_one (ps_set (X := X.suite a ((a, oe) :: pn2)) c.nd hj hly (pe_var hi hvn hdn hdc) (hsw a _) hfy))
  refine PS.weak base fun D σ H ⟨S, ρ, h, sim, env, q⟩ => ?_
  refine ⟨S, ρ, h, sim, env, ?_⟩
  unfold sTryK at q
  cases em : m ρ h with
  | ok f h' => rw [em] at q; exact q
  | stuck => rw [em] at q; exact q.elim
  | exc e h' =>
    rw [em] at q
    simp only at q
    split at q
    · rename_i hle
      simp only [Bool.and_eq_true, Option.isNone_iff_eq_none, decide_eq_true_eq] at hle
      obtain ⟨⟨hl, hce⟩, hli⟩ := hle
      have hce : e.cls ∈ cs := by simpa using hce
      obtain ⟨ec, el⟩ := e
      have hl : el = none := hl
      subst hl
      intro S' H' ex s'
      show ∀ C, X.mg ec = some (.ref C) → wKeep X.K (.ref C0) i _ _ D (.ref C) none σ H'
      intro C gC
      refine ⟨subE ec cls, (xa.kit ec hce cls hcs C C0 gC gC0).2, fun hb => ⟨C, rfl, fun a na => ?_⟩, fun hb => ?_⟩
      · rw [if_pos hb] at q
        have li : i < σ.length := by rw [← env.1]; exact hli
        refine ⟨.ref a, ?_, fun _ => ?_⟩
        · rw [List.getElem?_set]
          simp [li]
        · have e2 : Ext S' H' S' (upd H' a (ExK C a)) := Ext.grow (new_keep na)
          have s2 : Sim X.K X.mg S' (upd H' a (ExK C a)) h' := s'.grow (new_keep na)
          have env2 := (env.mono sim ex).mono s' e2
          have rp : Rep X.K X.mg S' (upd H' a (ExK C a)) (.exn ec) (.ref a) := ⟨a, C, rfl, gC, .inl upd_same⟩
          have env3 := (env2.set (i := j) rp).unset (i := i)
          have eq : ((σ.set i (some (V.ref a))).set j (some (V.ref a))).set i none = (σ.set j (some (V.ref a))).set i none := by
            refine List.ext_getElem? fun p => ?_
            by_cases c1 : i = p
            · subst c1
              simp [List.getElem?_set]
            · rw [List.getElem?_set_ne c1, List.getElem?_set_ne c1]
              by_cases c2 : j = p
              · subst c2
                simp [List.getElem?_set]
              · rw [List.getElem?_set_ne c2, List.getElem?_set_ne c2, List.getElem?_set_ne c1]
          rw [eq]
          exact q (VF.nx ((σ.set j (some (V.ref a))).set i none)) S' _ (Ext.trans s' ex e2) s2 env3
      · rw [if_neg (by rw [hb]; exact Bool.false_ne_true)] at q
        exact q S' H' ex s' C gC
    · exact q.elim
end
end R
namespace R
open PySem PySem.Spec PyProof.Rows L2
/-! ### the head's facts, with those of the classes of exceptions -/
/-- an own class of exceptions with an __init__ of its own; B's __init__ is ValueError's -/
def oexB (K : PySem.W.Frag) (C B : Addr) : Bool := (match K.lookup C with
  | some ⟨.type "type", _, .cls cd, sl⟩ => (match cd.mro, sl.toList with
    | .ref C' :: bm, [_, _, _, _, some (.builtin n), _] => C' == C && (n == "ValueError.__new__" && (!cd.hasDel && (cd.hasDict && PySem.HandSPX.refsVE bm)))
    | _, _ => false)
  | _ => false) && (He.eqO (PySem.W.findIn K (.ref C) "__setattr__") (some (some (.builtin "object.__setattr__"))) && (decide (PySem.W.subIn K (.ref C) (.type "BaseException") = some true) && (decide (PySem.W.typeIn K (.ref C) = some (.type "type")) && (PySem.W.keepIn K (.ref C) &&
      (He.eqO (PySem.W.specialIn K (.ref B) "__getattribute__") (some (some (.builtin "type.__getattribute__"))) && (PySem.W.readsIn K B (.type "type") && (match PySem.W.findCls K (.ref B) (.type "type") "__init__" with
        | some (.val (.builtin n)) => n == "ValueError.__init__"
        | _ => false)))))))
inductive XFa where
  | isE (x : Str) | ve (x : Str) | kit (x y : Str) (b : Bool) | oex (x y : Str)
def XFa.ok (K : PySem.W.Frag) : XFa → Bool
  | .isE x => (He.Fa.glo x).ok K && (He.eqO (PySem.W.findIn K (.ref (He.ga K x)) "__getattribute__") (some (some (.builtin "BaseException.__getattribute__"))) && (He.eqO (PySem.W.findIn K (.ref (He.ga K x)) "__getattr__") (some none) && (decide (PySem.W.subIn K (.ref (He.ga K x)) (.type "BaseException") = some true) &&
      (PySem.W.hasDictIn K (He.ga K x) && (He.eqO (PySem.W.findIn K (.ref (He.ga K x)) "__class__") (some (some (.builtin "object.__class__"))) && (He.eqO (PySem.W.specialIn K (.builtin "object.__class__") "__get__") (some (some (.builtin "getset_descriptor.__get__"))) &&
      (decide (PySem.W.takesIn K (.builtin "object.__class__") = some true) && decide (PySem.W.mroIn K (He.ga K x) (.type "object") = some true))))))))
  | .ve x => decide (PySem.W.kitOne K (.ref (He.ga K x)) (.type "ValueError") = some true)
  | .kit x y b => decide (PySem.W.kitOne K (.ref (He.ga K x)) (.ref (He.ga K y)) = some b) && decide (PySem.W.exmOne K (.ref (He.ga K x)) (.ref (He.ga K y)) = some b)
  | .oex x y => oexB K (He.ga K x) (He.ga K y)
def xfas (cs : List Str) : List XFa := cs.map .isE ++ cs.map .ve ++ cs.flatMap fun x => cs.map fun y => .kit x y (subE x y)
def obsXG (n : Nat) (fa : List He.Fa) (fn : List He.DefD) (xs : List XFa) (g : Addr → Option Obj) : He.AlD × Bool := (He.obsD fa fn (He.frG g (He.asD g n)), xs.all fun f => f.ok (He.frG g (He.asD g n)))
def hookX (n : Nat) (fa : List He.Fa) (fn : List He.DefD) (xs : List XFa) : PySem.W.Hook where
  α := He.AlD × Bool
  obs := fun s => obsXG n fa fn xs s.heap.get?
  val := fun _ => (He.valD fn, true)
  says := fun _ h => ∃ K : PySem.W.Frag, K.In h ∧ He.SaysD fa fn K ∧ (xs.all fun f => f.ok K) = true
  of := fun _ _ e => ⟨_, He.frG_in, congrArg (fun z : He.AlD × Bool => z.1) e, congrArg (fun z : He.AlD × Bool => z.2) e⟩
  keeps := fun _ _ _ ⟨K, hK, c⟩ k => ⟨K, PySem.W.Frag.In.keeps hK k, c⟩
theorem obsXG_eq {n : Nat} {fa : List He.Fa} {fn : List He.DefD} {xs : List XFa} {g : Addr → Option Obj} {s : Shared} (h : ∀ a, g a = s.heap.get? a) : obsXG n fa fn xs g = (hookX n fa fn xs).obs s := by
  have e : g = s.heap.get? := funext h
  rw [e] <;> rfl
theorem excA_of {K : PySem.W.Frag} {h : Heap} {mg : Str → Option Value} {cs : List Str} (X : K.In h) (G : h.Ns mainGlobals mg) (c : ((xfas cs).all fun f => f.ok K) = true) : ExcA K mg cs := by
  rw [List.all_eq_true] at c
  have c1 : ∀ x ∈ cs, (XFa.isE x).ok K = true := fun x hx => c _ (List.mem_append_left _ (List.mem_append_left _ (List.mem_map.mpr ⟨x, hx, rfl⟩)))
  have c2 : ∀ x ∈ cs, (XFa.ve x).ok K = true := fun x hx => c _ (List.mem_append_left _ (List.mem_append_right _ (List.mem_map.mpr ⟨x, hx, rfl⟩)))
  have c3 : ∀ x ∈ cs, ∀ y ∈ cs, (XFa.kit x y (subE x y)).ok K = true := fun x hx y hy => c _ (List.mem_append_right _ (List.mem_flatMap.mpr ⟨x, hx, List.mem_map.mpr ⟨y, hy, rfl⟩⟩))
  have gl : ∀ x ∈ cs, mg x = some (.ref (He.ga K x)) := fun x hx => by
    have z := c1 x hx
    simp only [XFa.ok, Bool.and_eq_true] at z
    exact He.glo_ok X G z.1
  refine ⟨fun x hx => ⟨_, gl x hx, ?_⟩, fun x hx y hy C D gC gD => ?_, fun x hx C gC => ?_⟩
  · have z := c1 x hx
    simp only [XFa.ok, Bool.and_eq_true, decide_eq_true_eq] at z
    obtain ⟨_, z1, z2, z3, z4, z5, z6, z7, z8⟩ := z
    exact ⟨He.eqO_ok z1, He.eqO_ok z2, z3, z4, He.eqO_ok z5, He.eqO_ok z6, z7, z8⟩
  · have eC := (gl x hx).symm.trans gC
    have eD := (gl y hy).symm.trans gD
    cases eC
    cases eD
    have z := c3 x hx y hy
    simp only [XFa.ok, Bool.and_eq_true, decide_eq_true_eq] at z
    exact z
  · have eC := (gl x hx).symm.trans gC
    cases eC
    have z := c2 x hx
    simp only [XFa.ok, decide_eq_true_eq] at z
    exact z
end R
namespace R
open PySem PySem.Spec PyProof.Rows L2
/-! ### abs, is of two truth values, list(range(n)) -/
def rAbsA : List V → Hp → VK → Prop := fun xs H Q => ∃ i, xs = [.int i] ∧ Q (.int (if i < 0 then -i else i)) H
def fAbs (ds : List D) (h : PH) : Out D := match ds with
  | [.int i] => .ok (.int (if i < 0 then -i else i)) h
  | _ => .stuck
def oIs (a b : D) (h : PH) : Out D := match a, b with
  | .bl x, .bl y => .ok (.bl (x == y)) h
  | _, _ => .stuck
def oIsNot (a b : D) (h : PH) : Out D := match a, b with
  | .bl x, .bl y => .ok (.bl (x != y)) h
  | _, _ => .stuck
def rIsB : R2 := fun x y H Q => ∃ b c, x = .bl b ∧ y = .bl c ∧ Q (.bl (b == c)) H
def rIsNotB : R2 := fun x y H Q => ∃ b c, x = .bl b ∧ y = .bl c ∧ Q (.bl (b != c)) H
section
variable {K : PySem.W.Frag} {mg : Str → Option Value} {E : XK}
theorem cs_abs : CallS K mg E rAbsA fAbs := fun S H h xs ds Q sim r q => by
  unfold fAbs at q
  split at q
  · obtain ⟨x, rfl, rx⟩ := r.one_inv
    have rx : x = .int _ := rx
    subst rx
    exact ⟨_, rfl, Post.get (b := V.int _) q sim rfl⟩
  · exact q.elim
theorem os_isB : OpS K mg E rIsB oIs := fun S H h x y dx dy Q sim rx ry q => by
  unfold oIs at q
  split at q
  · exact ⟨_, _, rx, ry, Post.get (b := V.bl _) q sim rfl⟩
  · exact q.elim
theorem os_isNotB : OpS K mg E rIsNotB oIsNot := fun S H h x y dx dy Q sim rx ry q => by
  unfold oIsNot at q
  split at q
  · exact ⟨_, _, rx, ry, Post.get (b := V.bl _) q sim rfl⟩
  · exact q.elim
end
theorem op_isB {X : Cx} : OpR X (compareOp .Is) rIsB := by
  intro pins s σ H x y v u Q I rx ry ⟨b, c, ex, ey, q⟩
  subst ex ey
  cases rx
  cases ry
  exact PyProof.Rows.is_bool (fin_bl I q rfl)
theorem op_isNotB {X : Cx} : OpR X (compareOp .IsNot) rIsNotB := by
  intro pins s σ H x y v u Q I rx ry ⟨b, c, ex, ey, q⟩
  subst ex ey
  cases rx
  cases ry
  exact PyProof.Rows.isnot_bool (fin_bl I q rfl)
def eLRg (fz : Bool) (a : EM) (ρ : Rho) (h : PH) : Out D := (a ρ h).bind fun d h1 => match d with
  | .int n => if 0 ≤ n ∧ n ≤ 16777216 then mkL fz (irange 0 n.toNat) h1 else .stuck
  | _ => .stuck
theorem re_listRg (fz : Bool) {X : Cx} {E : XK} {e : Expr} {ma : EM} {p1 pos1 p pos : Pos} (hc : X.calm = true) (hg : Gl X "list") (hm : X.mg "list" = none) (hg2 : Gl X "range") (hm2 : X.mg "range" = none) (ha : RE X E e ma)
    (na : starEach [e] X.env = (false, eval e X.env) :: starEach [] X.env := by rfl)
    (na2 : starEach [.Call (.Name "range" p1) [e] [] pos1] X.env = (false, eval (.Call (.Name "range" p1) [e] [] pos1) X.env) :: starEach [] X.env := by rfl) :
    RE X E (.Call (.Name "list" p) [.Call (.Name "range" p1) [e] [] pos1] [] pos) (eLRg fz ma) :=
  PE.weak (pe_listRg hc hg hm (prg_1 hg2 hm2 ha na) na2) fun σ H Q ⟨S, ρ, h, sim, env, q⟩ => tG_seq sim env q fun x S1 H1 h1 dx e1 s1 r1 env1 q1 => by
    split at q1
    · rename_i n
      split at q1
      · rename_i hz
        refine ⟨n, r1, RgOk.of_le (Int.le_refl 0) hz.2 (by omega) hz.1, fun q np => ?_⟩
        have e : rgV 0 n = (((List.range n.toNat).map fun i : Nat => (0 + (i : Nat) : Int))).map V.int := by
          unfold rgV
          rw [Int.sub_zero, List.map_map]
          rfl
        rw [e]
        have e2 : irange 0 n.toNat = ((List.range n.toNat).map fun i : Nat => (0 + (i : Nat) : Int)).map D.int := by
          unfold irange
          rw [List.map_map]
          rfl
        rw [e2] at q1
        exact mkL_ok s1 (reps_ints _) q1 np
      · exact q1.elim
    · exact q1.elim
/-! ### l.index(x), by == of data -/
def fIndex (d : D) (as : List D) (h : PH) : Out D := match as with
  | [y] => (match pdF h 64 d, pdF h 64 y with
    | some (.list ps), some p => (match ps.findIdx? fun z => PyData.eqv z p with
      | some j => .ok (.int (j : Nat)) h
      | none => .stuck)
    | _, _ => .stuck)
  | _ => .stuck
section
variable {K : PySem.W.Frag} {mg : Str → Option Value} {E : XK}
theorem ms_index : MtS K mg E (rIndexD K) fIndex := fun S H h x xs d ds Q sim r rs q => by
  unfold fIndex at q
  split at q
  · obtain ⟨y, rfl, ry⟩ := rs.one_inv
    split at q
    · rename_i ps p e1 e2
      split at q
      · rename_i j e3
        obtain ⟨h1, h2⟩ := pd_ok sim 64 _ _ _ e1 r
        obtain ⟨h3, h4⟩ := pd_ok sim 64 _ _ _ e2 ry
        obtain ⟨a, rfl⟩ := ref_of_list h1
        obtain ⟨hj, hp, hn⟩ := List.findIdx?_eq_some_iff_getElem.mp e3
        refine ⟨a, y, p, ps, j, ps[j], rfl, rfl, h1, h3, pd_shaped h2, pd_shaped h4, List.getElem?_eq_getElem hj, hp, fun m z' hm hz => ?_, Post.get (b := V.int _) q sim rfl⟩
        obtain ⟨hm', rfl⟩ := List.getElem?_eq_some_iff.mp hz
        simpa using hn m hm
      · exact q.elim
    · exact q.elim
  · exact q.elim
end
theorem room65 {k : Nat} {A : Around} (r : Room k A) : A.units + 65 < cLine := by have := r.un; omega
end R
/-! sorted of a tuple of ints -/
namespace SrtO
open PySem PySem.Spec PyProof.Rows
section
variable {prog : Program} {w : World} {A : Around} {E : Value → Shared → Prop} {s : Shared}
theorem collect_tupQ {l : Addr} {vs : List Value} {Q : List Value → Shared → Prop} (hl : IsTup s.heap l vs.toArray)
    (h : Q vs { s with heap := (s.heap.push (seqObj "list" #[] 0)).update s.heap.objs.size (Obj.mapSeq (· ++ vs.toArray)) }) (hsz : vs.length ≤ sizeLine) :
    wpAny (model prog w) A (collect (.ref l)) Q E s := by
  obtain ⟨o, ho, hc, n, hd⟩ := id hl
  unfold collect
  refine wpAny_bind (wpAny_runValue (codeAny_builtin entry_proto_collect' ?_))
  show wpAny _ _ (do again (.builtin "list.__iadd__" ⟨[← newList [], .ref l], []⟩)) _ _ s
  refine wpAny_bind (wpAny_newList (wpAny_pure ⟨Code.quiet_builtin _ (by decide +kernel), codeAny_builtin entry_list_iadd' ?_⟩))
  show wpAny _ _ (Builtin.List.listExtendWith (.ref s.heap.objs.size) (.ref l) (.ref s.heap.objs.size)) _ _ { s with heap := s.heap.push (seqObj "list" #[] 0) }
  unfold Builtin.List.listExtendWith
  have ho' : (s.heap.push (seqObj "list" #[] 0)).get? l = some o := Heap.get?_push_of_some _ ho
  refine wpAny_bind (wpAny_typeOf (T := "tuple") ⟨o, ho', hc⟩ ?_)
  have ht : (Value.type "tuple" == Value.type "tuple") = true := by rfl
  rw [if_pos (by rw [ht]; simp)]
  refine wpAny_bind (listItems_at ho' hd ?_)
  refine wpAny_bind (listItems_at (xs := #[]) (n := 0) (Heap.get?_push_size _ rfl) rfl ?_)
  rw [if_neg (by simp)]
  refine wpAny_bind (listUpdate_at (xs := #[]) (n := 0) (Heap.get?_push_size _ rfl) rfl ?_ (Nat.zero_le _) (by show (#[] ++ vs.toArray).size ≤ sizeLine + 1; simp only [Array.size_append, List.size_toArray, List.length_nil]; omega))
  refine wpAny_pure ?_
  show wpAny (model prog w) A (do
      let o ← load s.heap.objs.size
      match o.data with
      | .seq xs _ => pure xs.toList
      | _ => unsupported "internal:collect") Q E { s with heap := (s.heap.push (seqObj "list" #[] 0)).update s.heap.objs.size (Obj.mapSeq (· ++ vs.toArray)) }
  refine wpAny_bind (wpAny_load (get?_update_seq (Heap.get?_push_size _ rfl) _) ?_)
  show wpAny _ _ (pure ((#[] : Array Value) ++ vs.toArray).toList) Q E _
  rw [show ((#[] : Array Value) ++ vs.toArray).toList = vs by simp]
  exact wpAny_pure h
theorem sorted_ordQ {l : Addr} {vs : List Value} {ltv : Value → Value → Bool} {Q : Value → Shared → Prop} (O : Swo ltv) (hl : IsTup s.heap l vs.toArray) (hz : vs.length ≤ sizeLine)
    (hS : 2 ≤ vs.length → ∀ (h₁ : Heap) (a : Addr), h₁.get? a = some (seqObj "list" vs.toArray 0) → (∀ b o, s.heap.get? b = some o → b ≠ a ∧ h₁.get? b = some o) → SortableO prog w A.in1.in1 { s with heap := h₁ } a vs ltv)
    (h : ∀ out : List Value, Srtd ltv out → Stb ltv out vs → Q (.ref (s.heap.objs.size + 1)) { s with heap := sortedAll s.heap vs out.toArray }) :
    wpAny (model prog w) A (call (.builtin "sorted") [.ref l]) Q E s := by
  refine Calls.call_function_entry kind_sorted plain_sorted entry_sorted (args_sorted1 _) ?_
  unfold Builtin.«sorted»
  refine wpAny_bind (m := checkCount "sorted" 1 1 _) (wpAny_pure ?_)
  refine wpAny_bind (collect_tupQ hl ?_ hz)
  refine wpAny_bind (wpAny_newList ?_ hz)
  have hsz : ((s.heap.push (seqObj "list" #[] 0)).update s.heap.objs.size (Obj.mapSeq (· ++ vs.toArray))).objs.size = s.heap.objs.size + 1 := by
    rw [Heap.size_update, size_push']
  have hoL : (((s.heap.push (seqObj "list" #[] 0)).update s.heap.objs.size (Obj.mapSeq (· ++ vs.toArray))).push (seqObj "list" vs.toArray 0)).get? (s.heap.objs.size + 1) = some (seqObj "list" vs.toArray 0) := by
    rw [← hsz]; exact Heap.get?_push_size _ rfl
  have keep : ∀ b o, s.heap.get? b = some o → b ≠ s.heap.objs.size + 1 ∧ (((s.heap.push (seqObj "list" #[] 0)).update s.heap.objs.size (Obj.mapSeq (· ++ vs.toArray))).push (seqObj "list" vs.toArray 0)).get? b = some o := fun b o q => by
    have hlt : b < s.heap.objs.size := Heap.lt_size q
    refine ⟨Nat.ne_of_lt (Nat.lt_succ_of_lt hlt), Heap.get?_push_of_some _ ?_⟩
    rw [Heap.get?_update_ne _ _ _ _ (Nat.ne_of_lt hlt)]
    exact Heap.get?_push_of_some _ q
  show wpAny _ _ _ _ _ { s with heap := ((s.heap.push (seqObj "list" #[] 0)).update s.heap.objs.size (Obj.mapSeq (· ++ vs.toArray))).push (seqObj "list" vs.toArray 0) }
  rw [hsz]
  refine wpAny_bind (wpAny_holding (wpAny_call_entry slot_list_sort ⟨_, hoL, rfl⟩ entry_list_sort (list_sort_ord O hoL hz (fun h2 => hS h2 _ _ hoL keep) fun out hs hb => ⟨_, rfl, ?_⟩) (args_list_sort _)))
  exact wpAny_pure ⟨_, rfl, h out hs hb⟩
end
end SrtO
namespace L2
open PySem PySem.Spec PyProof.Rows
/-- sorted(t), a tuple of ints -/
def rSortedIT (K : PySem.W.Frag) : List V → Hp → VK → Prop := fun vs H Q => ∃ (a : Addr) (ns : List Int), vs = [V.ref a] ∧ SqT K H a (ns.map V.int) ∧
  ∀ (ns' : List Int) (p : Addr), ns'.Perm ns → ns'.Pairwise (· ≤ ·) → H p = none → Q (.ref p) (upd H p (.lst (ns'.map V.int)))
theorem cr_sortedIT {X : Cx} : CallR X (.builtin "sorted") (rSortedIT X.K) := by
  intro pins s σ H vs us Q I r h
  obtain ⟨a, ns, rfl, hs, q⟩ := h
  obtain ⟨its, rv, hl, hz⟩ := I.tuple hs
  rw [Vals.ref1 r]
  have hi := rv.ints
  refine SrtO.sorted_ordQ SrtO.swo_int hl (by rw [← rv.length]; exact hz) (fun h2 h₁ a' _ _ => SrtO.ints_sortable hi h2) fun out h1 h2 => ?_
  obtain ⟨k1, k2, k3⟩ := SrtO.ints_out hi h1 h2
  obtain ⟨ep, he'⟩ := PyProof.Rows.sortedAll_at s.heap its out.toArray
  have hlen : ((out.map SrtO.iv).map V.int).length ≤ sizeLine := by
    rw [List.length_map, k2.length_eq]
    rw [List.length_map] at hz
    exact hz
  exact ⟨.ref _, upd H (s.heap.objs.size + 1) (.lst ((out.map SrtO.iv).map V.int)), I.laid (t' := s.toks) (fun _ _ => PyProof.Rows.sortedAll_old) (Nat.le_succ _) ⟨hlen, out, ep, vals_of_ints k1, he'⟩, rfl, q _ _ k2 k3 (I.hok.fresh (Nat.le_succ _))⟩
end L2
namespace R
open PySem PySem.Spec PyProof.Rows L2
def fSortIT (fz : Bool) (ds : List D) (h : PH) : Out D := match ds with
  | [.tup es] => match optAll asInt es with
    | some ns => mkL fz ((sortI ns).map .int) h
    | none => .stuck
  | _ => .stuck
theorem cs_sortIT {K : PySem.W.Frag} {mg : Str → Option Value} {E : XK} {fz : Bool} : CallS K mg E (rSortedIT K) (fSortIT fz) := fun S H h xs ds Q sim r q => by
  unfold fSortIT at q
  split at q
  · obtain ⟨x, rfl, rx⟩ := r.one_inv
    split at q
    · rename_i ns e2
      obtain ⟨a, vs, rfl, t, rs⟩ := rx
      have e3 := ints_ok rs e2
      subst e3
      refine ⟨a, ns, rfl, t.sq, fun ms p hp hs np => ?_⟩
      rw [sortI_eq hp hs]
      exact mkL_ok sim (reps_ints _) q np
    · exact q.elim
  · exact q.elim
end R
namespace R
open PySem PySem.Spec PyProof.Rows L2
/-! ### list.pop at a place -/
def popI (i : Int) (ds : List D) : Option (D × List D) := match seqIndex? i ds.length with
  | some k => (ds[k]?).map fun y => (y, ds.eraseIdx k)
  | none => none
def fPopAt (d : D) (as : List D) (h : PH) : Out D := match as with
  | [.int i] => if -(2 ^ 63) ≤ i ∧ i < 2 ^ 63 then onL d h (popI i) else .stuck
  | _ => .stuck
section
variable {K : PySem.W.Frag} {mg : Str → Option Value} {E : XK} {S : Sx} {H : Hp}
theorem Reps.eraseIdx : ∀ {ds : List D} {vs : List V} (n : Nat), Reps K mg S H ds vs → Reps K mg S H (ds.eraseIdx n) (vs.eraseIdx n)
  | [], _, n, r => by
    have r : _ = [] := r
    subst r
    exact rfl
  | d :: ds, vs, 0, r => by
    obtain ⟨v, r', rfl, q', t⟩ := r
    exact t
  | d :: ds, vs, n + 1, r => by
    obtain ⟨v, r', rfl, q', t⟩ := r
    exact ⟨v, _, rfl, q', Reps.eraseIdx n t⟩
theorem ms_popAt : MtS K mg E rPopAt fPopAt := fun S H h x xs d ds Q sim r rs q => by
  unfold fPopAt at q
  split at q
  · rename_i i
    obtain ⟨u, rfl, ru⟩ := rs.one_inv
    have ru : u = .int i := ru
    subst ru
    split at q
    · rename_i hi
      obtain ⟨n, a, zs, ws, rv, es, rfl, rfl, t, rz, ef, k⟩ := onL_ok sim r q
      unfold popI at ef
      split at ef
      · rename_i j ej
        obtain ⟨y, e1, e2⟩ := Option.map_eq_some_iff.mp ef
        cases e2
        obtain ⟨w, g, rw'⟩ := rz.get e1
        exact ⟨a, ws, i, j, w, rfl, rfl, t, hi.1, hi.2, by rw [rz.length]; exact ej, g, k _ w rw' (rz.eraseIdx j)⟩
      · cases ef
    · exact q.elim
  · exact q.elim
end
end R
namespace R
open PySem PySem.Spec PyProof.Rows L2
/-! ### the combinators step by step: no lambda is left behind a step -/
section
variable {ρ ρ1 : Rho} {h h1 : PH} {a b c : EM} {f g : D → D → PH → Out D} {ta tb : TM} {as : AM} {sa sb : SM} {gm : GM} {gs : GsM} {x y d : D} {xs ds : List D}
def kBin2 (f : D → D → PH → Out D) (x y : D) (h : PH) : Out D := f x y h
def kBin (f : D → D → PH → Out D) (b : EM) (ρ : Rho) (x : D) (h : PH) : Out D := (b ρ h).bind (kBin2 f x)
@[simp] theorem kBin2_s : kBin2 f x y h = f x y h := (rfl)
@[simp] theorem kBin_s : kBin f b ρ x h = (b ρ h).bind (kBin2 f x) := (rfl)
@[simp] theorem eBin_s : eBin f a b ρ h = (a ρ h).bind (kBin f b ρ) := (rfl)
@[simp] theorem eUn_s {f : D → PH → Out D} : eUn f a ρ h = (a ρ h).bind f := (rfl)
def kCh3 (g : D → D → PH → Out D) (c : EM) (ρ : Rho) (y : D) : D → PH → Out D
  | .bl true, h => (c ρ h).bind (kBin2 g y)
  | .bl false, h => .ok (.bl false) h
  | _, _ => .stuck
def kCh2 (f g : D → D → PH → Out D) (c : EM) (ρ : Rho) (x y : D) (h : PH) : Out D := (f x y h).bind (kCh3 g c ρ y)
def kCh1 (f g : D → D → PH → Out D) (b c : EM) (ρ : Rho) (x : D) (h : PH) : Out D := (b ρ h).bind (kCh2 f g c ρ x)
@[simp] theorem kCh3_t : kCh3 g c ρ y (.bl true) h = (c ρ h).bind (kBin2 g y) := (rfl)
@[simp] theorem kCh3_f : kCh3 g c ρ y (.bl false) h = .ok (.bl false) h := (rfl)
@[simp] theorem kCh2_s : kCh2 f g c ρ x y h = (f x y h).bind (kCh3 g c ρ y) := (rfl)
@[simp] theorem kCh1_s : kCh1 f g b c ρ x h = (b ρ h).bind (kCh2 f g c ρ x) := (rfl)
@[simp] theorem eChain_s : eChain f g a b c ρ h = (a ρ h).bind (kCh1 f g b c ρ) := by
  unfold eChain
  congr 1
  funext x h1
  show _ = (b ρ h1).bind _
  congr 1
  funext y h2
  show _ = (f x y h2).bind _
  congr 1
  funext r h3
  cases r with
  | bl p => cases p <;> rfl
  | _ => rfl
theorem kCh3_d {p : Bool} : kCh3 g c ρ y (.bl p) h = if p then (c ρ h).bind (kBin2 g y) else .ok (.bl false) h := by cases p <;> rfl
def kAnd (b : EM) (ρ : Rho) : D → PH → Out D
  | .bl true, h => b ρ h
  | .bl false, h => .ok (.bl false) h
  | _, _ => .stuck
def kOr (b : EM) (ρ : Rho) : D → PH → Out D
  | .bl false, h => b ρ h
  | .bl true, h => .ok (.bl true) h
  | _, _ => .stuck
def kNot : D → PH → Out D
  | .bl p, h => .ok (.bl (!p)) h
  | _, _ => .stuck
def kVal : D → PH → Out Bool
  | .bl p, h => .ok p h
  | _, _ => .stuck
@[simp] theorem kAnd_t : kAnd b ρ (.bl true) h = b ρ h := (rfl)
@[simp] theorem kAnd_f : kAnd b ρ (.bl false) h = .ok (.bl false) h := (rfl)
@[simp] theorem kOr_t : kOr b ρ (.bl true) h = .ok (.bl true) h := (rfl)
@[simp] theorem kOr_f : kOr b ρ (.bl false) h = b ρ h := (rfl)
@[simp] theorem kNot_s {p : Bool} : kNot (.bl p) h = .ok (.bl (!p)) h := (rfl)
@[simp] theorem kVal_s {p : Bool} : kVal (.bl p) h = .ok p h := (rfl)
theorem kAnd_d {p : Bool} : kAnd b ρ (.bl p) h = if p then b ρ h else .ok (.bl false) h := by cases p <;> rfl
theorem kOr_d {p : Bool} : kOr b ρ (.bl p) h = if p then .ok (.bl true) h else b ρ h := by cases p <;> rfl
@[simp] theorem eAnd_s : eAnd a b ρ h = (a ρ h).bind (kAnd b ρ) := by
  unfold eAnd
  congr 1
  funext x h1
  cases x with
  | bl p => cases p <;> rfl
  | _ => rfl
@[simp] theorem eOr_s : eOr a b ρ h = (a ρ h).bind (kOr b ρ) := by
  unfold eOr
  congr 1
  funext x h1
  cases x with
  | bl p => cases p <;> rfl
  | _ => rfl
@[simp] theorem eNot_s : eNot a ρ h = (a ρ h).bind kNot := by
  unfold eNot
  congr 1
  funext x h1
  cases x with
  | bl p => cases p <;> rfl
  | _ => rfl
@[simp] theorem tVal_s : tVal a ρ h = (a ρ h).bind kVal := by
  unfold tVal
  congr 1
  funext x h1
  cases x with
  | bl p => cases p <;> rfl
  | _ => rfl
def kTAnd (b : TM) (ρ : Rho) : Bool → PH → Out Bool
  | true, h => b ρ h
  | false, h => .ok false h
def kTOr (b : TM) (ρ : Rho) : Bool → PH → Out Bool
  | true, h => .ok true h
  | false, h => b ρ h
def kTNot (p : Bool) (h : PH) : Out Bool := .ok (!p) h
@[simp] theorem kTAnd_t : kTAnd tb ρ true h = tb ρ h := (rfl)
@[simp] theorem kTAnd_f : kTAnd tb ρ false h = .ok false h := (rfl)
@[simp] theorem kTOr_t : kTOr tb ρ true h = .ok true h := (rfl)
@[simp] theorem kTOr_f : kTOr tb ρ false h = tb ρ h := (rfl)
@[simp] theorem kTNot_s {p : Bool} : kTNot p h = .ok (!p) h := (rfl)
theorem kTAnd_d {p : Bool} : kTAnd tb ρ p h = if p then tb ρ h else .ok false h := by cases p <;> rfl
theorem kTOr_d {p : Bool} : kTOr tb ρ p h = if p then .ok true h else tb ρ h := by cases p <;> rfl
@[simp] theorem tAndM_s : tAndM ta tb ρ h = (ta ρ h).bind (kTAnd tb ρ) := by
  unfold tAndM
  congr 1
  funext x h1
  cases x <;> rfl
@[simp] theorem tOrM_s : tOrM ta tb ρ h = (ta ρ h).bind (kTOr tb ρ) := by
  unfold tOrM
  congr 1
  funext x h1
  cases x <;> rfl
@[simp] theorem tNotM_s : tNotM ta ρ h = (ta ρ h).bind kTNot := (rfl)
def kCons2 (x : D) (xs : List D) (h : PH) : Out (List D) := .ok (x :: xs) h
def kCons (r : AM) (ρ : Rho) (x : D) (h : PH) : Out (List D) := (r ρ h).bind (kCons2 x)
@[simp] theorem kCons2_s : kCons2 x xs h = .ok (x :: xs) h := (rfl)
@[simp] theorem kCons_s : kCons as ρ x h = (as ρ h).bind (kCons2 x) := (rfl)
@[simp] theorem aCons_s : aCons a as ρ h = (a ρ h).bind (kCons as ρ) := (rfl)
def kSome : D → PH → Out (Option Int)
  | .int i, h => .ok (some i) h
  | _, _ => .stuck
@[simp] theorem kSome_s {i : Int} : kSome (.int i) h = .ok (some i) h := (rfl)
@[simp] theorem oSome_s : oSome a ρ h = (a ρ h).bind kSome := by
  unfold oSome
  congr 1
  funext x h1
  cases x <;> rfl
def kTup (xs : List D) (h : PH) : Out D := if sizeOk xs.length then .ok (.tup xs) h else .stuck
def kLst (fz : Bool) (xs : List D) (h : PH) : Out D := if sizeOk xs.length then mkL fz xs h else .stuck
@[simp] theorem kTup_s : kTup xs h = if sizeOk xs.length then .ok (.tup xs) h else .stuck := (rfl)
@[simp] theorem kLst_s {fz : Bool} : kLst fz xs h = if sizeOk xs.length then mkL fz xs h else .stuck := (rfl)
@[simp] theorem eTup_s : eTup as ρ h = (as ρ h).bind kTup := (rfl)
@[simp] theorem eLst_s {fz : Bool} : eLst fz as ρ h = (as ρ h).bind (kLst fz) := (rfl)
@[simp] theorem eCallB_s {f : List D → PH → Out D} : eCallB f as ρ h = (as ρ h).bind f := (rfl)
@[simp] theorem eCallM_s {f : List D → PH → Out D} : eCallM f as ρ h = (as ρ h).bind f := (rfl)
@[simp] theorem eCallP_s {m : List D → Res} : eCallP m as ρ h = (as ρ h).bind (runP m) := (rfl)
@[simp] theorem eCallT_s {m : List D → Res} : eCallT m as ρ h = (as ρ h).bind (runT m) := (rfl)
def ofRes (h : PH) : Res → Out D
  | .ok d => .ok d h
  | .exc e => .exc e h
  | .stuck => .stuck
def ofSnap (m : List D → Res) (h : PH) : Option (List D) → Out D
  | some es => ofRes h (m es)
  | none => .stuck
@[simp] theorem ofRes_ok : ofRes h (.ok d) = .ok d h := (rfl)
@[simp] theorem ofRes_exc {e : Ex} : ofRes h (.exc e) = .exc e h := (rfl)
@[simp] theorem ofRes_stuck : ofRes h .stuck = .stuck := (rfl)
@[simp] theorem ofSnap_s {m : List D → Res} : ofSnap m h (some xs) = ofRes h (m xs) := (rfl)
@[simp] theorem runP_s {m : List D → Res} : runP m xs h = ofSnap m h (optAll (snapF h 16) xs) := by
  unfold runP ofSnap ofRes
  rfl
def kSl3 (fz : Bool) (x : D) (l u : Option Int) (h : PH) : Out D := oSl fz x l u h
def kSl2 (fz : Bool) (hi : Rho → PH → Out (Option Int)) (ρ : Rho) (x : D) (l : Option Int) (h : PH) : Out D := (hi ρ h).bind (kSl3 fz x l)
def kSl1 (fz : Bool) (lo hi : Rho → PH → Out (Option Int)) (ρ : Rho) (x : D) (h : PH) : Out D := (lo ρ h).bind (kSl2 fz hi ρ x)
@[simp] theorem kSl3_s {fz : Bool} {l u : Option Int} : kSl3 fz x l u h = oSl fz x l u h := (rfl)
@[simp] theorem kSl2_s {fz : Bool} {l : Option Int} {hi : Rho → PH → Out (Option Int)} : kSl2 fz hi ρ x l h = (hi ρ h).bind (kSl3 fz x l) := (rfl)
@[simp] theorem kSl1_s {fz : Bool} {lo hi : Rho → PH → Out (Option Int)} : kSl1 fz lo hi ρ x h = (lo ρ h).bind (kSl2 fz hi ρ x) := (rfl)
@[simp] theorem eSl_s {fz : Bool} {lo hi : Rho → PH → Out (Option Int)} : eSl fz a lo hi ρ h = (a ρ h).bind (kSl1 fz lo hi ρ) := (rfl)
def kIsN : D → PH → Out D
  | .non, h => .ok (.bl true) h
  | _, h => .ok (.bl false) h
def kNotN : D → PH → Out D
  | .non, h => .ok (.bl false) h
  | _, h => .ok (.bl true) h
@[simp] theorem kIsN_non : kIsN .non h = .ok (.bl true) h := (rfl)
@[simp] theorem kIsN_int {i : Int} : kIsN (.int i) h = .ok (.bl false) h := (rfl)
@[simp] theorem kIsN_bl {i : Bool} : kIsN (.bl i) h = .ok (.bl false) h := (rfl)
@[simp] theorem kIsN_str {i : Str} : kIsN (.str i) h = .ok (.bl false) h := (rfl)
@[simp] theorem kIsN_tup : kIsN (.tup xs) h = .ok (.bl false) h := (rfl)
@[simp] theorem kIsN_lst {t : Tg} : kIsN (.lst t xs) h = .ok (.bl false) h := (rfl)
@[simp] theorem kIsN_loc {t : Nat} : kIsN (.loc t) h = .ok (.bl false) h := (rfl)
@[simp] theorem kNotN_non : kNotN .non h = .ok (.bl false) h := (rfl)
@[simp] theorem kNotN_int {i : Int} : kNotN (.int i) h = .ok (.bl true) h := (rfl)
@[simp] theorem kNotN_bl {i : Bool} : kNotN (.bl i) h = .ok (.bl true) h := (rfl)
@[simp] theorem kNotN_str {i : Str} : kNotN (.str i) h = .ok (.bl true) h := (rfl)
@[simp] theorem kNotN_tup : kNotN (.tup xs) h = .ok (.bl true) h := (rfl)
@[simp] theorem kNotN_lst {t : Tg} : kNotN (.lst t xs) h = .ok (.bl true) h := (rfl)
@[simp] theorem kNotN_loc {t : Nat} : kNotN (.loc t) h = .ok (.bl true) h := (rfl)
@[simp] theorem eIsN_s : eIsN a ρ h = (a ρ h).bind kIsN := by
  unfold eIsN
  congr 1
  funext x h1
  cases x <;> rfl
@[simp] theorem eNotN_s : eNotN a ρ h = (a ρ h).bind kNotN := by
  unfold eNotN
  congr 1
  funext x h1
  cases x <;> rfl
def kSeq (b : SM) : Fl → PH → Out Fl
  | .nx ρ, h => b ρ h
  | .rt d, h => .ok (.rt d) h
  | .bk ρ, h => .ok (.bk ρ) h
  | .ct ρ, h => .ok (.ct ρ) h
@[simp] theorem kSeq_nx : kSeq sb (.nx ρ) h = sb ρ h := (rfl)
@[simp] theorem kSeq_rt : kSeq sb (.rt d) h = .ok (.rt d) h := (rfl)
@[simp] theorem kSeq_bk : kSeq sb (.bk ρ) h = .ok (.bk ρ) h := (rfl)
@[simp] theorem kSeq_ct : kSeq sb (.ct ρ) h = .ok (.ct ρ) h := (rfl)
@[simp] theorem sSeq_s : sSeq sa sb ρ h = (sa ρ h).bind (kSeq sb) := by
  unfold sSeq
  congr 1
  funext x h1
  cases x <;> rfl
def kSet (i : Nat) (ρ : Rho) (d : D) (h : PH) : Out Fl := .ok (.nx (ρ.set i (some d))) h
@[simp] theorem kSet_s {i : Nat} : kSet i ρ d h = .ok (.nx (ρ.set i (some d))) h := (rfl)
@[simp] theorem sSet_s {i : Nat} : sSet i a ρ h = (a ρ h).bind (kSet i ρ) := (rfl)
def kNx (ρ : Rho) (h : PH) : Out Fl := .ok (.nx ρ) h
def kAsg (g : GM) (ρ : Rho) (d : D) (h : PH) : Out Fl := (g d ρ h).bind kNx
@[simp] theorem kNx_s : kNx ρ h = .ok (.nx ρ) h := (rfl)
@[simp] theorem kAsg_s : kAsg gm ρ d h = (gm d ρ h).bind kNx := (rfl)
@[simp] theorem sAsg_s : sAsg a gm ρ h = (a ρ h).bind (kAsg gm ρ) := (rfl)
def kRet (d : D) (h : PH) : Out Fl := .ok (.rt d) h
def kExpr (ρ : Rho) (_ : D) (h : PH) : Out Fl := .ok (.nx ρ) h
def kIf (a b : SM) (ρ : Rho) : Bool → PH → Out Fl
  | true, h => a ρ h
  | false, h => b ρ h
@[simp] theorem kRet_s : kRet d h = .ok (.rt d) h := (rfl)
@[simp] theorem kExpr_s : kExpr ρ d h = .ok (.nx ρ) h := (rfl)
@[simp] theorem kIf_t : kIf sa sb ρ true h = sa ρ h := (rfl)
@[simp] theorem kIf_f : kIf sa sb ρ false h = sb ρ h := (rfl)
theorem kIf_d {p : Bool} : kIf sa sb ρ p h = if p then sa ρ h else sb ρ h := by cases p <;> rfl
@[simp] theorem sRet_s : sRet a ρ h = (a ρ h).bind kRet := (rfl)
@[simp] theorem sExpr_s : sExpr a ρ h = (a ρ h).bind (kExpr ρ) := (rfl)
@[simp] theorem sIf_s : sIf ta sa sb ρ h = (ta ρ h).bind (kIf sa sb ρ) := by
  unfold sIf
  congr 1
  funext x h1
  cases x <;> rfl
@[simp] theorem gTp_s {n : Nat} : gTp n gs (.tup ds) ρ h = if ds.length = n then gs ds ρ h else .stuck := (rfl)
@[simp] theorem gsNil_s : gsNil [] ρ h = .ok ρ h := (rfl)
@[simp] theorem gsCons_s : gsCons gm gs (d :: ds) ρ h = (gm d ρ h).bind (gs ds) := (rfl)
def ofPut (ρ : Rho) : Option PH → Out Rho
  | some h => .ok ρ h
  | none => .stuck
@[simp] theorem ofPut_s : ofPut ρ (some h) = .ok ρ h := (rfl)
def kSb2 (ρ : Rho) (d x y : D) (h : PH) : Out Rho := ofPut ρ (putL x y d h)
def kSb1 (i : EM) (ρ : Rho) (d x : D) (h : PH) : Out Rho := (i ρ h).bind (kSb2 ρ d x)
@[simp] theorem kSb2_s : kSb2 ρ d x y h = ofPut ρ (putL x y d h) := (rfl)
@[simp] theorem kSb1_s : kSb1 b ρ d x h = (b ρ h).bind (kSb2 ρ d x) := (rfl)
@[simp] theorem gSb_s : gSb a b d ρ h = (a ρ h).bind (kSb1 b ρ d) := by
  unfold gSb
  congr 1
@[simp] theorem iS_s : iS a ρ h = (a ρ h).bind itS := (rfl)
def kR1 : List D → PH → Out Itm
  | [.int j], h => if -(2 ^ 62) ≤ j ∧ j < 2 ^ 62 then .ok (irange 0 j.toNat, always) h else .stuck
  | _, _ => .stuck
def kR2 : List D → PH → Out Itm
  | [.int i, .int j], h => if -(2 ^ 62) ≤ i ∧ i < 2 ^ 62 ∧ -(2 ^ 62) ≤ j ∧ j < 2 ^ 62 then .ok (irange i (j - i).toNat, always) h else .stuck
  | _, _ => .stuck
theorem kR1_i {j : Int} : kR1 [.int j] h = if -(2 ^ 62) ≤ j ∧ j < 2 ^ 62 then .ok (irange 0 j.toNat, always) h else .stuck := (rfl)
@[simp] theorem kR1_n {n : Nat} (hn : n < 4611686018427387904) : kR1 [.int (n : Int)] h = .ok (irange 0 n, always) h := by
  rw [kR1_i, if_pos (by omega)]
  simp
@[simp] theorem iR1_s : iR1 as ρ h = (as ρ h).bind kR1 := by
  unfold iR1
  congr 1
  funext ds h1
  rcases ds with _ | ⟨x, _ | ⟨y, r⟩⟩
  · rfl
  · cases x <;> rfl
  · cases x <;> rfl
@[simp] theorem iR2_s : iR2 as ρ h = (as ρ h).bind kR2 := by
  unfold iR2
  congr 1
  funext ds h1
  rcases ds with _ | ⟨x, _ | ⟨y, _ | ⟨z, r⟩⟩⟩
  · rfl
  · cases x <;> rfl
  · cases x <;> cases y <;> rfl
  · cases x <;> cases y <;> rfl
def kZ2 (p : Itm) (h0 : PH) (q : Itm) (_ : PH) : Out Itm := .ok (zipD p.1 q.1, both p.2 q.2) h0
def kZ1 (y : D) (h0 : PH) (p : Itm) (_ : PH) : Out Itm := (itL y h0).bind (kZ2 p h0)
def kZ : List D → PH → Out Itm
  | [.tup xs, .tup ys], h => .ok (zipD xs ys, always) h
  | [x, y], h => (itL x h).bind (kZ1 y h)
  | _, _ => .stuck
def kE1 (h0 : PH) (p : Itm) (_ : PH) : Out Itm := .ok (enumD p.1, p.2) h0
def kE : List D → PH → Out Itm
  | [.tup xs], h => .ok (enumD xs, always) h
  | [x], h => (itL x h).bind (kE1 h)
  | _, _ => .stuck
@[simp] theorem kZ_tt {ys : List D} : kZ [.tup xs, .tup ys] h = .ok (zipD xs ys, always) h := (rfl)
@[simp] theorem kZ_ll {t t' : Tg} {ys : List D} : kZ [.lst t xs, .lst t' ys] h = .ok (zipD xs ys, both always always) h := (rfl)
@[simp] theorem kE_tup : kE [.tup xs] h = .ok (enumD xs, always) h := (rfl)
@[simp] theorem kE_lst {t : Tg} : kE [.lst t xs] h = .ok (enumD xs, always) h := (rfl)
@[simp] theorem kE_loc {n : Nat} : kE [.loc n] h = (itL (.loc n) h).bind (kE1 h) := (rfl)
@[simp] theorem kE1_s {p : Itm} {h0 : PH} : kE1 h0 p h = .ok (enumD p.1, p.2) h0 := (rfl)
@[simp] theorem iZ_s : iZ as ρ h = (as ρ h).bind kZ := by
  unfold iZ
  congr 1
  funext ds h1
  rcases ds with _ | ⟨x, _ | ⟨y, _ | ⟨z, r⟩⟩⟩
  · rfl
  · cases x <;> rfl
  · cases x <;> cases y <;> rfl
  · cases x <;> cases y <;> rfl
@[simp] theorem iE_s : iE as ρ h = (as ρ h).bind kE := by
  unfold iE
  congr 1
  funext ds h1
  rcases ds with _ | ⟨x, _ | ⟨y, r⟩⟩
  · rfl
  · cases x <;> rfl
  · cases x <;> rfl
def kFor (g : GM) (body : SM) (ρ : Rho) (p : Itm) (h : PH) : Out Fl := forGo p.2 g body p.1 ρ h
@[simp] theorem kFor_s {p : Itm} : kFor gm sb ρ p h = forGo p.2 gm sb p.1 ρ h := (rfl)
@[simp] theorem sFor_s {i : IM} : sFor i gm sb ρ h = (i ρ h).bind (kFor gm sb ρ) := (rfl)
def kLC (fz : Bool) (g : GM) (t : TM) (e : EM) (ρ : Rho) (p : Itm) (h : PH) : Out D := (lcGo p.2 g t e ρ p.1 [] h).bind (mkL fz)
@[simp] theorem kLC_s {fz : Bool} {p : Itm} : kLC fz gm ta a ρ p h = (lcGo p.2 gm ta a ρ p.1 [] h).bind (mkL fz) := (rfl)
@[simp] theorem eLC_s {fz : Bool} {i : IM} {vs : List Nat} : eLC fz i gm ta a vs ρ h = (i ρ h).bind (kLC fz gm ta a (wipeR ρ vs)) := (rfl)
@[simp] theorem mkL_t : mkL true ds h = .ok (.lst .own ds) h := (rfl)
@[simp] theorem mkL_f : mkL false ds h = .ok (.loc h.length) (h ++ [.lst ds]) := (rfl)
def kBM (T : Ty) (f : D → List D → PH → Out D) (as : AM) (ρ : Rho) (d : D) (h : PH) : Out D := if tyM T h d then (as ρ h).bind (f d) else .stuck
def kBM0 (T : Ty) (f : D → List D → PH → Out D) (d : D) (h : PH) : Out D := if tyM T h d then f d [] h else .stuck
@[simp] theorem kBM_s {T : Ty} {f : D → List D → PH → Out D} : kBM T f as ρ d h = if tyM T h d then (as ρ h).bind (f d) else .stuck := (rfl)
@[simp] theorem kBM0_s {T : Ty} {f : D → List D → PH → Out D} : kBM0 T f d h = if tyM T h d then f d [] h else .stuck := (rfl)
@[simp] theorem eBM_s {T : Ty} {f : D → List D → PH → Out D} : eBM T f a as ρ h = (a ρ h).bind (kBM T f as ρ) := (rfl)
@[simp] theorem eBM0_s {T : Ty} {f : D → List D → PH → Out D} : eBM0 T f a ρ h = (a ρ h).bind (kBM0 T f) := (rfl)
@[simp] theorem kRev_tup {fz : Bool} : kRev fz (.tup ds) h = .ok (.tup ds.reverse) h := (rfl)
@[simp] theorem kRev_lst {fz : Bool} {t : Tg} : kRev fz (.lst t ds) h = mkL fz ds.reverse h := (rfl)
@[simp] theorem eRev_s {fz : Bool} : eRev fz a ρ h = (a ρ h).bind (kRev fz) := (rfl)
/-! ### an element of a comprehension -/
def kEl3 (y : D) (h : PH) : Out (Option D) := .ok (some y) h
def kEl2 (e : EM) (ρ : Rho) : Bool → PH → Out (Option D)
  | true, h => (e ρ h).calm.bind kEl3
  | false, h => .ok none h
def kEl1 (t : TM) (e : EM) (ρ : Rho) (h : PH) : Out (Option D) := (t ρ h).calm.bind (kEl2 e ρ)
def lcEl (g : GM) (t : TM) (e : EM) (ρ : Rho) (d : D) (h : PH) : Out (Option D) := (g d ρ h).calm.bind (kEl1 t e)
@[simp] theorem kEl3_s : kEl3 d h = .ok (some d) h := (rfl)
@[simp] theorem kEl2_t : kEl2 a ρ true h = (a ρ h).calm.bind kEl3 := (rfl)
@[simp] theorem kEl2_f : kEl2 a ρ false h = .ok none h := (rfl)
theorem kEl2_d {p : Bool} : kEl2 a ρ p h = if p then (a ρ h).calm.bind kEl3 else .ok none h := by cases p <;> rfl
@[simp] theorem kEl1_s : kEl1 ta a ρ h = (ta ρ h).calm.bind (kEl2 a ρ) := (rfl)
@[simp] theorem lcEl_s : lcEl gm ta a ρ d h = (gm d ρ h).calm.bind (kEl1 ta a) := (rfl)
/-! ### methods that write -/
def ofOn (n : Nat) (h : PH) : Option (D × List D) → Out D
  | some p => .ok p.1 (h.set n (.lst p.2))
  | none => .stuck
@[simp] theorem ofOn_s {n : Nat} {p : D × List D} : ofOn n h (some p) = .ok p.1 (h.set n (.lst p.2)) := (rfl)
theorem onL_at {n : Nat} {f : List D → Option (D × List D)} (e : h[n]? = some (.lst ds)) : onL (.loc n) h f = ofOn n h (f ds) := by
  unfold onL ofOn
  simp only [e]
  cases f ds with
  | none => rfl
  | some p => rfl
theorem getL_at {n : Nat} (e : h[n]? = some (.lst ds)) : getL h (.loc n) = some ds := by simp [e]
theorem app_at {n : Nat} {y : D} (e : h[n]? = some (.lst ds)) (hz : ds.length < sizeLine) : fAppend (.loc n) [y] h = .ok .non (h.set n (.lst (ds ++ [y]))) := by
  unfold fAppend
  simp only [onL_at e, if_pos hz, ofOn_s]
theorem isLst_at {n : Nat} (e : h[n]? = some (.lst ds)) : isLst n ds h = true := by
  unfold isLst
  rw [e]
  exact D.beqs_refl ds
theorem runT_ok {m : List D → Res} {ys : List D} (e1 : optAll (snapF h 16) xs = some ds) (e2 : m ds = .ok (.lst .own ys)) (e3 : noLsts ys = true) : runT m xs h = .ok (.loc h.length) (h ++ [.lst ys]) := by
  unfold runT
  simp only [e1, e2, e3, if_true]
theorem runT_exc {m : List D → Res} {e : Ex} (e1 : optAll (snapF h 16) xs = some ds) (e2 : m ds = .exc e) : runT m xs h = .exc e h := by
  unfold runT
  simp only [e1, e2]
theorem kRev_at {n : Nat} {fz : Bool} (e : h[n]? = some (.lst ds)) : kRev fz (.loc n) h = mkL fz ds.reverse h := by
  simp only [kRev, getL_at e]
theorem oSl_at {n : Nat} {fz : Bool} {l u : Option Int} (e : h[n]? = some (.lst ds)) : oSl fz (.loc n) l u h = mkL fz (cutG ds l u) h := by
  simp only [oSl, getL_at e]
theorem clear_at {n : Nat} (e : h[n]? = some (.lst ds)) : fClear (.loc n) [] h = .ok .non (h.set n (.lst [])) := by
  unfold fClear
  simp only [onL_at e, ofOn_s]
theorem tyM_at {n : Nat} (e : h[n]? = some (.lst ds)) : tyM .lst h (.loc n) = true := by simp [tyM, getL, e]
/-! ### the end of a def -/
def endM : Out Fl → Out D
  | .ok (.nx _) h' => .ok .non h'
  | .ok (.rt d) h' => .ok d h'
  | .exc e h' => .exc e h'
  | _ => .stuck
def ofRs : Option D → Res
  | some d => .ok d
  | none => .stuck
def endP : Out Fl → Res
  | .ok (.nx _) _ => .ok .non
  | .ok (.rt d) h' => ofRs (resF h' 16 d)
  | .exc e _ => .exc e
  | _ => .stuck
@[simp] theorem endM_nx : endM (.ok (.nx ρ) h) = .ok .non h := (rfl)
@[simp] theorem endM_rt : endM (.ok (.rt d) h) = .ok d h := (rfl)
@[simp] theorem endM_exc {e : Ex} : endM (.exc e h) = .exc e h := (rfl)
@[simp] theorem endP_nx : endP (.ok (.nx ρ) h) = .ok .non := (rfl)
@[simp] theorem endP_rt : endP (.ok (.rt d) h) = ofRs (resF h 16 d) := (rfl)
@[simp] theorem endP_exc {e : Ex} : endP (.exc e h) = .exc e := (rfl)
@[simp] theorem ofRs_s : ofRs (some d) = .ok d := (rfl)
/-! ### names and data -/
def ofVar (h : PH) : Option (Option D) → Out D
  | some (some d) => .ok d h
  | _ => .stuck
@[simp] theorem eVar_s {i : Nat} : eVar i ρ h = ofVar h ρ[i]? := by unfold eVar ofVar; all_goals (split <;> simp_all)
@[simp] theorem ofVar_s : ofVar h (some (some d)) = .ok d h := (rfl)
@[simp] theorem eC_s : eC d ρ h = .ok d h := (rfl)
@[simp] theorem aNil_s : aNil ρ h = .ok [] h := (rfl)
@[simp] theorem oNone_s : oNone ρ h = .ok none h := (rfl)
@[simp] theorem gNm_s {i : Nat} : gNm i d ρ h = .ok (ρ.set i (some d)) h := (rfl)
@[simp] theorem sNil_s : sNil ρ h = .ok (.nx ρ) h := (rfl)
@[simp] theorem sRaise_s {x : Str} : sRaise x ρ h = .exc ⟨x, none⟩ h := (rfl)
def ofGet (h : PH) : Option D → Out D
  | some d => .ok d h
  | none => .stuck
@[simp] theorem ofGet_s : ofGet h (some d) = .ok d h := (rfl)
/-- what a place of a list object answers -/
def ofHb {α : Type} (f : List D → Out α) : Option HB → Out α
  | some (.lst ds) => f ds
  | _ => .stuck
@[simp] theorem ofHb_s {α : Type} {f : List D → Out α} : ofHb f (some (.lst ds)) = f ds := (rfl)
@[simp] theorem oIx_tup {i : Int} : oIx (.tup ds) (.int i) h = ofGet h (atI ds i) := by unfold oIx ofGet; simp only [getSeq]; all_goals (split <;> simp_all)
@[simp] theorem oIx_lst {t : Tg} {i : Int} : oIx (.lst t ds) (.int i) h = ofGet h (atI ds i) := by unfold oIx ofGet; simp only [getSeq, getL]; all_goals (split <;> simp_all)
def kIx (h : PH) (i : Int) (ds : List D) : Out D := ofGet h (atI ds i)
@[simp] theorem kIx_s {i : Int} : kIx h i ds = ofGet h (atI ds i) := (rfl)
@[simp] theorem oIx_loc {n : Nat} {i : Int} : oIx (.loc n) (.int i) h = ofHb (kIx h i) h[n]? := by
  unfold oIx ofHb kIx ofGet
  simp only [getSeq, getL]
  cases h[n]? with
  | none => rfl
  | some b => cases b with
    | lst ds => simp only; all_goals (split <;> simp_all)
    | dct kvs => rfl
    | ins c fs => rfl
@[simp] theorem oAdd_int {fz : Bool} {i j : Int} : oAdd fz (.int i) (.int j) h = .ok (.int (i + j)) h := (rfl)
@[simp] theorem oAdd_str {fz : Bool} {i j : Str} : oAdd fz (.str i) (.str j) h = if sizeOk (i.length + j.length) then .ok (.str (i ++ j)) h else .stuck := (rfl)
@[simp] theorem oAdd_tup {fz : Bool} : oAdd fz (.tup xs) (.tup ds) h = if sizeOk (xs.length + ds.length) then .ok (.tup (xs ++ ds)) h else .stuck := (rfl)
@[simp] theorem mulOk_l {i j : Int} (h1 : -18446744073709551616 < i) (h2 : i < 18446744073709551616) : mulOk i j = true := by simp [mulOk, h1, h2]
@[simp] theorem mulOk_r {i j : Int} (h1 : -18446744073709551616 < j) (h2 : j < 18446744073709551616) : mulOk i j = true := by simp [mulOk, h1, h2]
@[simp] theorem oMul_int {fz : Bool} {i j : Int} : oMul fz (.int i) (.int j) h = if mulOk i j then .ok (.int (i * j)) h else .stuck := (rfl)
@[simp] theorem oSl_tup {fz : Bool} {l u : Option Int} : oSl fz (.tup xs) l u h = .ok (.tup (cutG xs l u)) h := (rfl)
@[simp] theorem oSl_lst {fz : Bool} {t : Tg} {l u : Option Int} : oSl fz (.lst t xs) l u h = mkL fz (cutG xs l u) h := (rfl)
@[simp] theorem fIsi_non {c : Ty} : fIsi [.non, .ty c] h = .ok (.bl (isTy .none c)) h := (rfl)
@[simp] theorem fIsi_bl {c : Ty} {i : Bool} : fIsi [.bl i, .ty c] h = .ok (.bl (isTy .bool c)) h := (rfl)
@[simp] theorem fIsi_int {c : Ty} {i : Int} : fIsi [.int i, .ty c] h = .ok (.bl (isTy .int c)) h := (rfl)
@[simp] theorem fIsi_str {c : Ty} {i : Str} : fIsi [.str i, .ty c] h = .ok (.bl (isTy .str c)) h := (rfl)
@[simp] theorem fIsi_tup {c : Ty} : fIsi [.tup xs, .ty c] h = .ok (.bl (isTy .tup c)) h := (rfl)
@[simp] theorem fIsi_lst {c : Ty} {t : Tg} : fIsi [.lst t xs, .ty c] h = .ok (.bl (isTy .lst c)) h := (rfl)
def kIsiL (h : PH) (c : Ty) (_ : List D) : Out D := .ok (.bl (isTy .lst c)) h
theorem fIsi_loc {c : Ty} {n : Nat} (e : h[n]? = some (.lst ds)) : fIsi [.loc n, .ty c] h = .ok (.bl (isTy .lst c)) h := by simp [fIsi, e]
@[simp] theorem fLen_tup : fLen [.tup xs] h = .ok (.int xs.length) h := (rfl)
@[simp] theorem fLen_lst {t : Tg} : fLen [.lst t xs] h = .ok (.int xs.length) h := (rfl)
theorem fLen_loc {n : Nat} (e : h[n]? = some (.lst ds)) : fLen [.loc n] h = .ok (.int ds.length) h := by simp [fLen, e]
@[simp] theorem fLen_str {z : Str} : fLen [.str z] h = if sizeOk z.length then .ok (.int z.length) h else .stuck := (rfl)
def ofSum (h : PH) : Option (List Int) → Out D
  | some ns => .ok (.int ns.sum) h
  | none => .stuck
@[simp] theorem ofSum_s {ns : List Int} : ofSum h (some ns) = .ok (.int ns.sum) h := (rfl)
@[simp] theorem fSum_lst {t : Tg} : fSum [.lst t xs] h = ofSum h (optAll asInt xs) := by unfold fSum ofSum; simp only [getSeq, getL, Option.bind_some]; all_goals (split <;> simp_all)
@[simp] theorem fSum_tup : fSum [.tup xs] h = ofSum h (optAll asInt xs) := by unfold fSum ofSum; simp only [getSeq, Option.bind_some]; all_goals (split <;> simp_all)
def ofAny (h : PH) : Option (List Bool) → Out D
  | some ns => .ok (.bl (ns.any id)) h
  | none => .stuck
def ofAll (h : PH) : Option (List Bool) → Out D
  | some ns => .ok (.bl (ns.all id)) h
  | none => .stuck
@[simp] theorem ofAny_s {ns : List Bool} : ofAny h (some ns) = .ok (.bl (ns.any id)) h := (rfl)
@[simp] theorem ofAll_s {ns : List Bool} : ofAll h (some ns) = .ok (.bl (ns.all id)) h := (rfl)
@[simp] theorem fAny_lst {t : Tg} : fAny [.lst t xs] h = ofAny h (optAll asBl xs) := by unfold fAny ofAny; simp only [getL, Option.bind_some]; all_goals (split <;> simp_all)
@[simp] theorem fAll_lst {t : Tg} : fAll [.lst t xs] h = ofAll h (optAll asBl xs) := by unfold fAll ofAll; simp only [getL, Option.bind_some]; all_goals (split <;> simp_all)
@[simp] theorem fTuple_tup : fTuple [.tup xs] h = .ok (.tup xs) h := (rfl)
@[simp] theorem fTuple_lst {t : Tg} : fTuple [.lst t xs] h = .ok (.tup xs) h := (rfl)
def kTpl (h : PH) (ds : List D) : Out D := .ok (.tup ds) h
@[simp] theorem kTpl_s : kTpl h ds = .ok (.tup ds) h := (rfl)
@[simp] theorem fTuple_loc {n : Nat} : fTuple [.loc n] h = ofHb (kTpl h) h[n]? := by
  unfold fTuple ofHb kTpl
  simp only [getL]
  cases h[n]? with
  | none => rfl
  | some b => cases b <;> rfl
@[simp] theorem fList_tup {fz : Bool} : fList fz [.tup xs] h = mkL fz xs h := (rfl)
@[simp] theorem fList_lst {fz : Bool} {t : Tg} : fList fz [.lst t xs] h = mkL fz xs h := (rfl)
def kLs (fz : Bool) (h : PH) (ds : List D) : Out D := mkL fz ds h
@[simp] theorem kLs_s {fz : Bool} : kLs fz h ds = mkL fz ds h := (rfl)
theorem fList_loc {n : Nat} {fz : Bool} : fList fz [.loc n] h = ofHb (kLs fz h) h[n]? := by
  unfold fList ofHb kLs
  simp only [getSeq, getL]
  cases h[n]? with
  | none => rfl
  | some b => cases b <;> rfl
theorem fList_at {n : Nat} {fz : Bool} (e : h[n]? = some (.lst ds)) : fList fz [.loc n] h = mkL fz ds h := by rw [fList_loc, e]; rfl
@[simp] theorem fInt_int {i : Int} : fInt [.int i] h = .ok (.int i) h := (rfl)
@[simp] theorem fInt_bl {i : Bool} : fInt [.bl i] h = .ok (.int (if i then 1 else 0)) h := (rfl)
@[simp] theorem oLt_int {i j : Int} : oLt (.int i) (.int j) h = .ok (.bl (decide (i < j))) h := (rfl)
@[simp] theorem itS_tup : itS (.tup xs) h = .ok (xs, always) h := (rfl)
@[simp] theorem itS_lst {t : Tg} : itS (.lst t xs) h = .ok (xs, always) h := (rfl)
theorem itS_loc {n : Nat} (e : h[n]? = some (.lst ds)) : itS (.loc n) h = .ok (ds, isLst n ds) h := by simp [itS, itL, e]
@[simp] theorem itL_lst {t : Tg} : itL (.lst t xs) h = .ok (xs, always) h := (rfl)
theorem itL_loc {n : Nat} (e : h[n]? = some (.lst ds)) : itL (.loc n) h = .ok (ds, isLst n ds) h := by simp [itL, e]
theorem putL_at {n : Nat} {i : Int} {j : Nat} (e : h[n]? = some (.lst ds)) (e2 : ixN ds.length i = some j) : putL (.loc n) (.int i) d h = some (h.set n (.lst (ds.set j d))) := by simp [putL, e, e2]
@[simp] theorem tyM_lst {t : Tg} : tyM .lst h (.lst t xs) = true := (rfl)
theorem fnM_s {np n : Nat} {body : SM} (hl : ds.length = np) : fnM np n body ds h = endM (body (ds.map some ++ List.replicate (n - np) none) h) := by
  unfold fnM endM
  rw [if_pos hl]
  all_goals (generalize body (List.map some ds ++ List.replicate (n - np) none) h = o; cases o <;> first | rfl | (rename_i f _; cases f <;> rfl))
theorem fnP_s {np n : Nat} {body : SM} (hl : ds.length = np) : fnP np n body ds = endP (body (ds.map some ++ List.replicate (n - np) none) []) := by
  unfold fnP
  rw [fnM_s hl]
  cases e : body (ds.map some ++ List.replicate (n - np) none) [] with
  | ok f h =>
    cases f with
    | nx ρ => simp only [endM, endP, resF]
    | rt d => simp only [endM, endP]; cases resF h 16 d <;> rfl
    | bk ρ => rfl
    | ct ρ => rfl
  | exc x h => rfl
  | stuck => rfl
theorem fnP0_s {n : Nat} {body : SM} : fnP 0 n body [] = endP (body (List.replicate (n - 0) none) []) := fnP_s rfl
theorem fnM0_s {n : Nat} {body : SM} : fnM 0 n body [] h = endM (body (List.replicate (n - 0) none) h) := fnM_s rfl
theorem fnP1_s {a1 : D} {n : Nat} {body : SM} : fnP 1 n body [a1] = endP (body (some a1 :: List.replicate (n - 1) none) []) := fnP_s rfl
theorem fnM1_s {a1 : D} {n : Nat} {body : SM} : fnM 1 n body [a1] h = endM (body (some a1 :: List.replicate (n - 1) none) h) := fnM_s rfl
theorem fnP2_s {a1 a2 : D} {n : Nat} {body : SM} : fnP 2 n body [a1, a2] = endP (body (some a1 :: some a2 :: List.replicate (n - 2) none) []) := fnP_s rfl
theorem fnM2_s {a1 a2 : D} {n : Nat} {body : SM} : fnM 2 n body [a1, a2] h = endM (body (some a1 :: some a2 :: List.replicate (n - 2) none) h) := fnM_s rfl
theorem fnP3_s {a1 a2 a3 : D} {n : Nat} {body : SM} : fnP 3 n body [a1, a2, a3] = endP (body (some a1 :: some a2 :: some a3 :: List.replicate (n - 3) none) []) := fnP_s rfl
theorem fnM3_s {a1 a2 a3 : D} {n : Nat} {body : SM} : fnM 3 n body [a1, a2, a3] h = endM (body (some a1 :: some a2 :: some a3 :: List.replicate (n - 3) none) h) := fnM_s rfl
theorem fnP4_s {a1 a2 a3 a4 : D} {n : Nat} {body : SM} : fnP 4 n body [a1, a2, a3, a4] = endP (body (some a1 :: some a2 :: some a3 :: some a4 :: List.replicate (n - 4) none) []) := fnP_s rfl
theorem fnM4_s {a1 a2 a3 a4 : D} {n : Nat} {body : SM} : fnM 4 n body [a1, a2, a3, a4] h = endM (body (some a1 :: some a2 :: some a3 :: some a4 :: List.replicate (n - 4) none) h) := fnM_s rfl
theorem fnP5_s {a1 a2 a3 a4 a5 : D} {n : Nat} {body : SM} : fnP 5 n body [a1, a2, a3, a4, a5] = endP (body (some a1 :: some a2 :: some a3 :: some a4 :: some a5 :: List.replicate (n - 5) none) []) := fnP_s rfl
theorem fnM5_s {a1 a2 a3 a4 a5 : D} {n : Nat} {body : SM} : fnM 5 n body [a1, a2, a3, a4, a5] h = endM (body (some a1 :: some a2 :: some a3 :: some a4 :: some a5 :: List.replicate (n - 5) none) h) := fnM_s rfl
end
end R
namespace R
open PySem PySem.Spec PyProof.Rows L2

/-! ### outcomes that end -/
@[irreducible] def Out.sat {α : Type} (o : Out α) (Q : α → PH → Prop) : Prop := match o with
  | .ok a h => Q a h
  | _ => False
def Res.sat (o : Res) (Q : D → Prop) : Prop := match o with
  | .ok a => Q a
  | _ => False
@[simp] theorem sat_ok {α : Type} {a : α} {h : PH} {Q : α → PH → Prop} : (Out.ok a h).sat Q ↔ Q a h := by unfold Out.sat; exact Iff.rfl
theorem sat_bind {α β : Type} {o : Out α} {k : α → PH → Out β} {Q : β → PH → Prop} : (o.bind k).sat Q ↔ o.sat fun a h => (k a h).sat Q := by
  unfold Out.sat
  cases o <;> exact Iff.rfl
theorem Out.sat.imp {α : Type} {o : Out α} {Q Q' : α → PH → Prop} (h : o.sat Q) (w : ∀ a h, Q a h → Q' a h) : o.sat Q' := by
  unfold Out.sat at h ⊢
  cases o <;> first | exact w _ _ h | exact h
theorem Out.sat.ex {α : Type} {o : Out α} {Q : α → PH → Prop} (h : o.sat Q) : ∃ a h', o = .ok a h' ∧ Q a h' := by
  unfold Out.sat at h
  cases o <;> first | exact ⟨_, _, rfl, h⟩ | exact h.elim
theorem Res.sat.ex {o : Res} {Q : D → Prop} (h : o.sat Q) : ∃ a, o = .ok a ∧ Q a := by
  cases o <;> first | exact ⟨_, rfl, h⟩ | exact h.elim
theorem bind_assoc {α β γ : Type} (o : Out α) (k : α → PH → Out β) (k2 : β → PH → Out γ) : (o.bind k).bind k2 = o.bind fun a h => (k a h).bind k2 := by cases o <;> rfl
/-- what a turn of a loop may end with -/
def turnF (I : Rho → PH → Prop) (R : D → PH → Prop) : Fl → PH → Prop
  | .nx ρ, h => I ρ h
  | .ct ρ, h => I ρ h
  | .rt d, h => R d h
  | .bk _, _ => False
theorem forGo_satR {chk : PH → Bool} {g : GM} {body : SM} {R : D → PH → Prop} : ∀ {items : List D} {ρ : Rho} {h : PH} (I : Nat → Rho → PH → Prop), I 0 ρ h → (∀ i ρ h, i ≤ items.length → I i ρ h → chk h = true) →
    (∀ i d ρ h, items[i]? = some d → I i ρ h → ((g d ρ h).bind fun ρ1 h1 => body ρ1 h1).sat (turnF (I (i + 1)) R)) →
    (forGo chk g body items ρ h).sat fun f h' => (∃ ρ', f = .nx ρ' ∧ I items.length ρ' h') ∨ ∃ d, f = .rt d ∧ R d h'
  | [], ρ, h, I, h0, hc, _ => by
    unfold forGo
    rw [hc 0 ρ h (Nat.le_refl _) h0]
    exact sat_ok.mpr (.inl ⟨ρ, rfl, h0⟩)
  | d :: r, ρ, h, I, h0, hc, hs => by
    unfold forGo
    rw [if_pos (hc 0 ρ h (Nat.zero_le _) h0)]
    have s := hs 0 d ρ h rfl h0
    rw [sat_bind] at s ⊢
    refine s.imp fun ρ1 h1 s1 => ?_
    rw [sat_bind]
    refine s1.imp fun f h2 s2 => ?_
    cases f with
    | nx ρ2 =>
      exact (forGo_satR (fun i => I (i + 1)) s2 (fun i ρ h hi => hc (i + 1) ρ h (by simpa using hi)) fun i d ρ h e => hs (i + 1) d ρ h (by simpa using e)).imp fun f h' q => by simpa using q
    | ct ρ2 =>
      exact (forGo_satR (fun i => I (i + 1)) s2 (fun i ρ h hi => hc (i + 1) ρ h (by simpa using hi)) fun i d ρ h e => hs (i + 1) d ρ h (by simpa using e)).imp fun f h' q => by simpa using q
    | rt d => exact sat_ok.mpr (.inr ⟨d, rfl, s2⟩)
    | bk ρ2 => exact (s2 : False).elim
theorem forGo_sat {chk : PH → Bool} {g : GM} {body : SM} {items : List D} {ρ : Rho} {h : PH} (I : Nat → Rho → PH → Prop) (h0 : I 0 ρ h) (hc : ∀ i ρ h, i ≤ items.length → I i ρ h → chk h = true)
    (hs : ∀ i d ρ h, items[i]? = some d → I i ρ h → ((g d ρ h).bind fun ρ1 h1 => body ρ1 h1).sat (turnF (I (i + 1)) fun _ _ => False)) :
    ∃ ρ' h', forGo chk g body items ρ h = .ok (.nx ρ') h' ∧ I items.length ρ' h' := by
  obtain ⟨f, h', e, q⟩ := (forGo_satR I h0 hc hs).ex
  rcases q with ⟨ρ', rfl, q⟩ | ⟨d, _, q⟩
  · exact ⟨ρ', h', e, q⟩
  · exact q.elim
theorem lcGo_cons {chk : PH → Bool} {g : GM} {t : TM} {e : EM} {ρ : Rho} {d : D} {r acc : List D} {h : PH} (hc : chk h = true) : lcGo chk g t e ρ (d :: r) acc h = (lcEl g t e ρ d h).bind fun o h3 => match o with
    | some y => if acc.length < sizeLine then lcGo chk g t e ρ r (acc ++ [y]) h3 else .stuck
    | none => lcGo chk g t e ρ r acc h3 := by
  rw [lcGo, if_pos hc, lcEl, bind_assoc]
  congr 1
  funext ρ1 h1
  rw [kEl1, bind_assoc]
  congr 1
  funext b h2
  cases b with
  | true => simp only [kEl2_t, bind_assoc, kEl3_s, bind_ok]
  | false => simp only [kEl2_f, bind_ok]
theorem lcGo_sat {chk : PH → Bool} {g : GM} {t : TM} {e : EM} {ρ : Rho} : ∀ {items acc : List D} {h : PH} (I : Nat → List D → PH → Prop), I 0 acc h → (∀ i acc h, i ≤ items.length → I i acc h → chk h = true) → acc.length + items.length ≤ sizeLine →
    (∀ i d acc h, items[i]? = some d → I i acc h → (lcEl g t e ρ d h).sat fun o h' => I (i + 1) (acc ++ o.toList) h') →
    ∃ acc' h', lcGo chk g t e ρ items acc h = .ok acc' h' ∧ I items.length acc' h'
  | [], acc, h, I, h0, hc, _, _ => ⟨acc, h, by rw [lcGo, if_pos (hc 0 acc h (Nat.le_refl _) h0)], h0⟩
  | d :: r, acc, h, I, h0, hc, hz, hs => by
    rw [lcGo_cons (hc 0 acc h (Nat.zero_le _) h0)]
    obtain ⟨o, h1, e1, q⟩ := (hs 0 d acc h rfl h0).ex
    rw [e1, bind_ok]
    have hz' : acc.length + (r.length + 1) ≤ sizeLine := hz
    cases o with
    | some y =>
      simp only
      rw [if_pos (by omega)]
      obtain ⟨a', h', e2, q2⟩ := lcGo_sat (chk := chk) (g := g) (t := t) (e := e) (ρ := ρ) (items := r) (acc := acc ++ [y]) (h := h1) (fun i => I (i + 1)) q (fun i acc h hi => hc (i + 1) acc h (by simpa using hi)) (by simp; omega) fun i d acc h e => hs (i + 1) d acc h (by simpa using e)
      exact ⟨a', h', e2, by simpa using q2⟩
    | none =>
      obtain ⟨a', h', e2, q2⟩ := lcGo_sat (chk := chk) (g := g) (t := t) (e := e) (ρ := ρ) (items := r) (acc := acc) (h := h1) (fun i => I (i + 1)) (by simpa using q) (fun i acc h hi => hc (i + 1) acc h (by simpa using hi)) (by omega) fun i d acc h e => hs (i + 1) d acc h (by simpa using e)
      exact ⟨a', h', e2, by simpa using q2⟩
/-- elements that change nothing -/
theorem lcGo_pure {α β : Type} {chk : PH → Bool} {g : GM} {t : TM} {e : EM} {ρ : Rho} {h : PH} (φ : α → D) (ψ : β → D) (k : α → Option β) (hc : chk h = true) : ∀ (xs : List α) (acc : List D), acc.length + xs.length ≤ sizeLine → (∀ x ∈ xs, lcEl g t e ρ (φ x) h = .ok ((k x).map ψ) h) →
    lcGo chk g t e ρ (xs.map φ) acc h = .ok (acc ++ (xs.filterMap k).map ψ) h
  | [], acc, _, _ => by simp [lcGo, hc]
  | x :: xs, acc, hz, hs => by
    rw [List.map_cons, lcGo_cons hc, hs x List.mem_cons_self, bind_ok]
    have hz' : acc.length + (xs.length + 1) ≤ sizeLine := hz
    cases ek : k x with
    | none => simp only [Option.map_none]; rw [lcGo_pure φ ψ k hc xs acc (by omega) fun y hy => hs y (List.mem_cons_of_mem _ hy), List.filterMap_cons, ek]
    | some b =>
      simp only [Option.map_some]
      rw [if_pos (by omega), lcGo_pure φ ψ k hc xs _ (by simp; omega) fun y hy => hs y (List.mem_cons_of_mem _ hy), List.filterMap_cons, ek]
      simp
theorem lcGo_map {α β : Type} {chk : PH → Bool} {g : GM} {t : TM} {e : EM} {ρ : Rho} {h : PH} (φ : α → D) (ψ : β → D) (k : α → β) (hc : chk h = true) (xs : List α) (hz : xs.length ≤ sizeLine) (hs : ∀ x ∈ xs, lcEl g t e ρ (φ x) h = .ok (some (ψ (k x))) h) :
    lcGo chk g t e ρ (xs.map φ) [] h = .ok ((xs.map k).map ψ) h := by
  rw [lcGo_pure φ ψ (fun x => some (k x)) hc xs [] (by simpa using hz) hs]
  simp

/-! ### typed data -/
theorem optAll_of {α β γ : Type} {f : α → Option β} (g : γ → α) (k : γ → β) (l : List γ) (h : ∀ x, f (g x) = some (k x)) : optAll f (l.map g) = some (l.map k) := optAll_map g k l fun x _ => h x
structure Cd (α : Type) [DecidableEq α] where
  d : α → D
  p : α → PyData
  n : Nat
  hpd : ∀ h k x, n < k → pdF h k (d x) = some (p x)
  heq : ∀ a b, PyData.eqv (p a) (p b) = decide (a = b)
  hsn : ∀ h k x, n < k → snapF h k (d x) = some (d x)
  hrs : ∀ h k x, n < k → resF h k (d x) = some (d x)
  hnl : ∀ x, noLst (d x) = true
theorem pos_of {n k : Nat} (h : n < k) : ∃ j, k = j + 1 := ⟨k - 1, by omega⟩
theorem eqvAll_of {α : Type} [DecidableEq α] {p : α → PyData} (h : ∀ a b, PyData.eqv (p a) (p b) = decide (a = b)) : ∀ (xs ys : List α), PyData.eqvAll (xs.map p) (ys.map p) = decide (xs = ys)
  | [], [] => by simp [PyData.eqvAll]
  | [], y :: ys => by simp [PyData.eqvAll]
  | x :: xs, [] => by simp [PyData.eqvAll]
  | x :: xs, y :: ys => by
    simp only [List.map_cons, PyData.eqvAll, h, eqvAll_of h xs ys, List.cons.injEq, Bool.decide_and]
theorem noLsts_of {α : Type} {d : α → D} (h : ∀ x, noLst (d x) = true) : ∀ xs : List α, noLsts (xs.map d) = true
  | [] => rfl
  | x :: xs => by simp [noLsts, h, noLsts_of h xs]
def cInt : Cd Int where
  d := .int
  p := .int
  n := 0
  hpd := fun h k x hk => by obtain ⟨j, rfl⟩ := pos_of hk; rfl
  heq := fun a b => by simp only [PyData.eqv]; by_cases z : a = b <;> simp [z]
  hsn := fun h k x hk => by obtain ⟨j, rfl⟩ := pos_of hk; rfl
  hrs := fun h k x hk => by obtain ⟨j, rfl⟩ := pos_of hk; rfl
  hnl := fun _ => rfl
def stayD : Option Int → D
  | none => .non
  | some i => .int i
def stayP : Option Int → PyData
  | none => .none
  | some i => .int i
def cStay : Cd (Option Int) where
  d := stayD
  p := stayP
  n := 0
  hpd := fun h k x hk => by obtain ⟨j, rfl⟩ := pos_of hk; cases x <;> rfl
  heq := fun a b => by cases a <;> cases b <;> simp only [stayP, PyData.eqv] <;> first | rfl | (rename_i x y; by_cases z : x = y <;> simp [z])
  hsn := fun h k x hk => by obtain ⟨j, rfl⟩ := pos_of hk; cases x <;> rfl
  hrs := fun h k x hk => by obtain ⟨j, rfl⟩ := pos_of hk; cases x <;> rfl
  hnl := fun x => by cases x <;> rfl
/-- a tuple of any length -/
def cTup {α : Type} [DecidableEq α] (c : Cd α) : Cd (List α) where
  d := fun xs => .tup (xs.map c.d)
  p := fun xs => .tuple (xs.map c.p)
  n := c.n + 1
  hpd := fun h k x hk => by obtain ⟨j, rfl⟩ := pos_of hk; simp only [pdF]; rw [optAll_of c.d c.p x fun y => c.hpd h j y (by omega)]; rfl
  heq := fun a b => by simp only [PyData.eqv]; exact eqvAll_of c.heq a b
  hsn := fun h k x hk => by obtain ⟨j, rfl⟩ := pos_of hk; simp only [snapF]; rw [optAll_of c.d c.d x fun y => c.hsn h j y (by omega)]; rfl
  hrs := fun h k x hk => by obtain ⟨j, rfl⟩ := pos_of hk; simp only [resF]; rw [optAll_of c.d c.d x fun y => c.hrs h j y (by omega)]; rfl
  hnl := fun x => by simp only [noLst]; exact noLsts_of c.hnl x
def cPair {α β : Type} [DecidableEq α] [DecidableEq β] (c : Cd α) (e : Cd β) : Cd (α × β) where
  d := fun x => .tup [c.d x.1, e.d x.2]
  p := fun x => .tuple [c.p x.1, e.p x.2]
  n := max c.n e.n + 1
  hpd := fun h k x hk => by obtain ⟨j, rfl⟩ := pos_of hk; simp only [pdF, optAll, c.hpd h j x.1 (by omega), e.hpd h j x.2 (by omega), Option.map_some]
  heq := fun a b => by
    obtain ⟨a1, a2⟩ := a
    obtain ⟨b1, b2⟩ := b
    simp only [PyData.eqv, PyData.eqvAll, c.heq, e.heq, Bool.and_true, Prod.mk.injEq, Bool.decide_and]
  hsn := fun h k x hk => by obtain ⟨j, rfl⟩ := pos_of hk; simp only [snapF, optAll, c.hsn h j x.1 (by omega), e.hsn h j x.2 (by omega), Option.map_some]
  hrs := fun h k x hk => by obtain ⟨j, rfl⟩ := pos_of hk; simp only [resF, optAll, c.hrs h j x.1 (by omega), e.hrs h j x.2 (by omega), Option.map_some]
  hnl := fun x => by simp [noLst, noLsts, c.hnl, e.hnl]
/-- ties, bars, stays -/
structure Web where
  ties : List (List (Int × Int))
  bars : List Int
  stays : List (Option Int)
  deriving DecidableEq
abbrev cRow : Cd (List (Int × Int)) := cTup (cPair cInt cInt)
abbrev cTies := cTup cRow
abbrev cStand := cTup cInt
def cWeb : Cd Web where
  d := fun W => .tup [cTies.d W.ties, cStand.d W.bars, (cTup cStay).d W.stays]
  p := fun W => .tuple [cTies.p W.ties, cStand.p W.bars, (cTup cStay).p W.stays]
  n := 4
  hpd := fun h k x hk => by obtain ⟨j, rfl⟩ := pos_of hk; simp only [pdF, optAll, cTies.hpd h j _ (show (3 : Nat) < j by omega), cStand.hpd h j _ (show (1 : Nat) < j by omega), (cTup cStay).hpd h j _ (show (1 : Nat) < j by omega), Option.map_some]
  heq := fun a b => by
    obtain ⟨a1, a2, a3⟩ := a
    obtain ⟨b1, b2, b3⟩ := b
    simp only [PyData.eqv, PyData.eqvAll, cTies.heq, cStand.heq, (cTup cStay).heq, Bool.and_true, Web.mk.injEq, Bool.decide_and]
  hsn := fun h k x hk => by obtain ⟨j, rfl⟩ := pos_of hk; simp only [snapF, optAll, cTies.hsn h j _ (show (3 : Nat) < j by omega), cStand.hsn h j _ (show (1 : Nat) < j by omega), (cTup cStay).hsn h j _ (show (1 : Nat) < j by omega), Option.map_some]
  hrs := fun h k x hk => by obtain ⟨j, rfl⟩ := pos_of hk; simp only [resF, optAll, cTies.hrs h j _ (show (3 : Nat) < j by omega), cStand.hrs h j _ (show (1 : Nat) < j by omega), (cTup cStay).hrs h j _ (show (1 : Nat) < j by omega), Option.map_some]
  hnl := fun x => by simp [noLst, noLsts, cTies.hnl, cStand.hnl, (cTup cStay).hnl]
@[simp] theorem snap_non {h : PH} : snapF h 16 .non = some .non := rfl
@[simp] theorem snap_int {h : PH} {i : Int} : snapF h 16 (.int i) = some (.int i) := rfl
@[simp] theorem snap_bl {h : PH} {i : Bool} : snapF h 16 (.bl i) = some (.bl i) := rfl
@[simp] theorem snap_str {h : PH} {i : Str} : snapF h 16 (.str i) = some (.str i) := rfl
@[simp] theorem snap_web {h : PH} {W : Web} : snapF h 16 (cWeb.d W) = some (cWeb.d W) := cWeb.hsn h 16 W (by decide)
@[simp] theorem snap_stand {h : PH} {s : List Int} : snapF h 16 (cStand.d s) = some (cStand.d s) := cStand.hsn h 16 s (by decide)
@[simp] theorem snap_stay {h : PH} {s : Option Int} : snapF h 16 (stayD s) = some (stayD s) := cStay.hsn h 16 s (by decide)
@[simp] theorem res_non {h : PH} : resF h 16 .non = some .non := rfl
@[simp] theorem res_int {h : PH} {i : Int} : resF h 16 (.int i) = some (.int i) := rfl
@[simp] theorem res_bl {h : PH} {i : Bool} : resF h 16 (.bl i) = some (.bl i) := rfl
@[simp] theorem res_str {h : PH} {i : Str} : resF h 16 (.str i) = some (.str i) := rfl
@[simp] theorem res_web {h : PH} {W : Web} : resF h 16 (cWeb.d W) = some (cWeb.d W) := cWeb.hrs h 16 W (by decide)
@[simp] theorem res_stand {h : PH} {s : List Int} : resF h 16 (cStand.d s) = some (cStand.d s) := cStand.hrs h 16 s (by decide)
@[simp] theorem pd_int {h : PH} {i : Int} : pdF h 64 (.int i) = some (.int i) := rfl
@[simp] theorem pd_non {h : PH} : pdF h 64 .non = some .none := rfl
@[simp] theorem pd_bl {h : PH} {i : Bool} : pdF h 64 (.bl i) = some (.bool i) := rfl
theorem beq_dec {α : Type} [BEq α] [LawfulBEq α] [DecidableEq α] (a b : α) : (a == b) = decide (a = b) := by
  by_cases z : a = b
  · simp [z]
  · simp [z]
@[simp] theorem oEq_int {h : PH} {i j : Int} : oEq (.int i) (.int j) h = .ok (.bl (decide (i = j))) h := by simp [oEq, oNe, PyData.eqv, beq_dec]
@[simp] theorem oNe_int {h : PH} {i j : Int} : oNe (.int i) (.int j) h = .ok (.bl (!decide (i = j))) h := by simp [oEq, oNe, PyData.eqv, beq_dec]
theorem oEq_cd {α : Type} [DecidableEq α] (c : Cd α) (hn : c.n < 64) {h : PH} {a b : α} : oEq (c.d a) (c.d b) h = .ok (.bl (decide (a = b))) h := by simp only [oEq, c.hpd h 64 _ hn, c.heq]
theorem oNe_cd {α : Type} [DecidableEq α] (c : Cd α) (hn : c.n < 64) {h : PH} {a b : α} : oNe (c.d a) (c.d b) h = .ok (.bl (!decide (a = b))) h := by simp only [oNe, c.hpd h 64 _ hn, c.heq]
@[simp] theorem oEq_stand {h : PH} {a b : List Int} : oEq (cStand.d a) (cStand.d b) h = .ok (.bl (decide (a = b))) h := oEq_cd cStand (by decide)
@[simp] theorem oNe_stand {h : PH} {a b : List Int} : oNe (cStand.d a) (cStand.d b) h = .ok (.bl (!decide (a = b))) h := oNe_cd cStand (by decide)
@[simp] theorem oEq_web {h : PH} {a b : Web} : oEq (cWeb.d a) (cWeb.d b) h = .ok (.bl (decide (a = b))) h := oEq_cd cWeb (by decide)
@[simp] theorem oNe_web {h : PH} {a b : Web} : oNe (cWeb.d a) (cWeb.d b) h = .ok (.bl (!decide (a = b))) h := oNe_cd cWeb (by decide)
theorem line_eq : sizeLine = 16777216 := sizeLine_eq
/-- places -/
@[simp] theorem atI_nat' {α : Type} (xs : List α) (j : Nat) : atI xs (j : Int) = xs[j]? := by
  unfold atI ixN
  rw [if_pos (by omega)]
  by_cases h : j < xs.length
  · rw [if_pos (by omega)]; simp
  · rw [if_neg (by omega)]; simp; omega
theorem atI_nn {α : Type} (xs : List α) {i : Int} (h : 0 ≤ i) : atI xs i = xs[i.toNat]? := by
  rw [← atI_nat' xs i.toNat, Int.toNat_of_nonneg h]
@[simp] theorem atI_0 {α : Type} (xs : List α) : atI xs 0 = xs[0]? := atI_nat' xs 0
@[simp] theorem atI_1 {α : Type} (xs : List α) : atI xs 1 = xs[1]? := atI_nat' xs 1
@[simp] theorem atI_2 {α : Type} (xs : List α) : atI xs 2 = xs[2]? := atI_nat' xs 2
@[simp] theorem atI_3 {α : Type} (xs : List α) : atI xs 3 = xs[3]? := atI_nat' xs 3
@[simp] theorem atI_4 {α : Type} (xs : List α) : atI xs 4 = xs[4]? := atI_nat' xs 4
theorem cWeb_d (W : Web) : cWeb.d W = .tup [.tup (W.ties.map cRow.d), .tup (W.bars.map .int), .tup (W.stays.map stayD)] := rfl
theorem cStand_d (s : List Int) : cStand.d s = .tup (s.map .int) := rfl
theorem cRow_d (r : List (Int × Int)) : cRow.d r = .tup (r.map dPair) := rfl
@[simp] theorem kNotN_stay {o : Option Int} {h : PH} : kNotN (stayD o) h = .ok (.bl o.isSome) h := by cases o <;> rfl
@[simp] theorem kIsN_stay {o : Option Int} {h : PH} : kIsN (stayD o) h = .ok (.bl o.isNone) h := by cases o <;> rfl
@[simp] theorem oNe_int_stay {h : PH} {i : Int} {o : Option Int} : oNe (.int i) (stayD o) h = .ok (.bl (!decide (o = some i))) h := by
  rw [show D.int i = cStay.d (some i) from rfl, show stayD o = cStay.d o from rfl, oNe_cd cStay (by decide)]
  simp [eq_comm]
@[simp] theorem oEq_int_stay {h : PH} {i : Int} {o : Option Int} : oEq (.int i) (stayD o) h = .ok (.bl (decide (o = some i))) h := by
  rw [show D.int i = cStay.d (some i) from rfl, show stayD o = cStay.d o from rfl, oEq_cd cStay (by decide)]
  simp [eq_comm]
theorem zipD_map {α β : Type} (f : α → D) (g : β → D) : ∀ (xs : List α) (ys : List β), zipD (xs.map f) (ys.map g) = (xs.zip ys).map fun p => .tup [f p.1, g p.2]
  | [], _ => by cases ‹List β› <;> rfl
  | _ :: _, [] => rfl
  | x :: xs, y :: ys => by
    have := zipD_map f g xs ys
    simp only [zipD, List.map_cons, List.zip_cons_cons] at this ⊢
    simp [this]
def heldOk (p : Int × Option Int) : Bool := decide (0 ≤ p.1 ∧ p.1 ≤ 1) && (decide (p.2 = none) || decide (p.2 = some p.1))
def fitsI (W : Web) (s : List Int) : Bool := decide (s.length = W.ties.length) && (s.zip W.stays).all heldOk
/-- a loop that answers at the first turn that fails -/
theorem forGo_all {α : Type} {chk : PH → Bool} {g : GM} {body : SM} {h : PH} {r : D} (φ : α → D) (ok : α → Bool) (I : Rho → Prop) (hc : chk h = true)
    (hs : ∀ x ρ, I ρ → ((g (φ x) ρ h).bind body).sat fun f h' => h' = h ∧ if ok x then ∃ ρ', f = .nx ρ' ∧ I ρ' else f = .rt r) :
    ∀ (xs : List α) (ρ : Rho), I ρ → (forGo chk g body (xs.map φ) ρ h).sat fun f h' => h' = h ∧ if xs.all ok then ∃ ρ', f = .nx ρ' ∧ I ρ' else f = .rt r
  | [], ρ, i => by
    rw [List.map_nil, forGo, hc]
    exact sat_ok.mpr ⟨rfl, ρ, rfl, i⟩
  | x :: xs, ρ, i => by
    rw [List.map_cons, forGo, if_pos hc]
    have s := hs x ρ i
    rw [sat_bind] at s ⊢
    refine s.imp fun ρ1 h1 s1 => ?_
    rw [sat_bind]
    refine s1.imp fun f h2 ⟨e, s2⟩ => ?_
    subst e
    cases ox : ok x with
    | true =>
      rw [ox, if_pos rfl] at s2
      obtain ⟨ρ', rfl, i'⟩ := s2
      simp only [List.all_cons, ox, Bool.true_and]
      exact forGo_all φ ok I hc hs xs ρ' i'
    | false =>
      rw [ox] at s2
      simp only [List.all_cons, ox, Bool.false_and]
      simp only [Bool.false_eq_true, if_false] at s2 ⊢
      subst s2
      exact sat_ok.mpr ⟨rfl, rfl⟩
theorem ixN_len {n m : Nat} (h : n = m) (i : Int) : ixN n i = ixN m i := by rw [h]
@[simp] theorem atI_map {α β : Type} (f : α → β) (xs : List α) (i : Int) : atI (xs.map f) i = (atI xs i).map f := by
  unfold atI
  rw [List.length_map]
  cases ixN xs.length i <;> simp
@[simp] theorem cWeb_ix0 {W : Web} {h : PH} : oIx (cWeb.d W) (.int 0) h = .ok (.tup (W.ties.map cRow.d)) h := by simp [cWeb_d]
@[simp] theorem cWeb_ix1 {W : Web} {h : PH} : oIx (cWeb.d W) (.int 1) h = .ok (.tup (W.bars.map .int)) h := by simp [cWeb_d]
@[simp] theorem cWeb_ix2 {W : Web} {h : PH} : oIx (cWeb.d W) (.int 2) h = .ok (.tup (W.stays.map stayD)) h := by simp [cWeb_d]
@[simp] theorem cStand_len {s : List Int} {h : PH} : fLen [cStand.d s] h = .ok (.int s.length) h := by simp [cStand_d]
@[simp] theorem cStand_isi {s : List Int} {h : PH} : fIsi [cStand.d s, .ty .tup] h = .ok (.bl true) h := by simp [cStand_d]
@[simp] theorem cStand_ix {s : List Int} {h : PH} {i : Int} : oIx (cStand.d s) (.int i) h = ofGet h ((atI s i).map .int) := by simp [cStand_d]
@[simp] theorem cWeb_isi {W : Web} {h : PH} : fIsi [cWeb.d W, .ty .tup] h = .ok (.bl true) h := by simp [cWeb_d]
@[simp] theorem kZ_st {s : List Int} {h : PH} {ys : List D} : kZ [cStand.d s, .tup ys] h = .ok (zipD (s.map .int) ys, always) h := rfl
@[simp] theorem cStand_itS {s : List Int} {h : PH} : itS (cStand.d s) h = .ok (s.map .int, always) h := rfl
theorem row_ix {W : Web} {h : PH} {i : Nat} {r : List (Int × Int)} (e : W.ties[i]? = some r) : oIx (.tup (W.ties.map cRow.d)) (.int i) h = .ok (cRow.d r) h := by simp [e]
@[simp] theorem row_itS {r : List (Int × Int)} {h : PH} : itS (cRow.d r) h = .ok (r.map dPair, always) h := by simp [cRow_d]
@[simp] theorem optAll_int (xs : List Int) : optAll asInt (xs.map D.int) = some xs := by
  have := optAll_map (f := asInt) (D.int : Int → D) (id : Int → Int) xs fun x _ => rfl
  simpa using this
def pulledI (s : List Int) (r : List (Int × Int)) : Int := (r.filterMap fun p => if atI s p.1 = some 1 then some p.2 else none).sum
def rowIn (n : Nat) (r : List (Int × Int)) : Prop := ∀ p ∈ r, 0 ≤ p.1 ∧ p.1 < n
theorem rowIn_at {s : List Int} {r : List (Int × Int)} {n : Nat} (hn : s.length = n) (h : rowIn n r) {p : Int × Int} (hp : p ∈ r) : ∃ x, atI s p.1 = some x := by
  have := h p hp
  rw [atI_nn _ this.1]
  exact ⟨s[p.1.toNat]'(by omega), List.getElem?_eq_getElem (by omega)⟩
theorem res_of {α : Type} [DecidableEq α] (c : Cd α) (hn : c.n < 15) {h : PH} {xs : List α} : resF h 16 (.lst .own (xs.map c.d)) = some (.lst .own (xs.map c.d)) := by
  simp only [resF]
  rw [optAll_of c.d c.d xs fun y => c.hrs h 15 y hn]
  rfl
@[simp] theorem res_lstI {h : PH} {xs : List Int} : resF h 16 (.lst .own (xs.map .int)) = some (.lst .own (xs.map .int)) := res_of cInt (by decide)
@[simp] theorem res_lstS {h : PH} {xs : List (List Int)} : resF h 16 (.lst .own (xs.map cStand.d)) = some (.lst .own (xs.map cStand.d)) := res_of cStand (by decide)
def borT : Tg → Tg
  | .cst => .cst
  | _ => .bor
theorem snap_of {α : Type} [DecidableEq α] (c : Cd α) (hn : c.n < 15) {h : PH} {t : Tg} {xs : List α} : snapF h 16 (.lst t (xs.map c.d)) = some (.lst (borT t) (xs.map c.d)) := by
  cases t <;> simp only [snapF] <;> rw [optAll_of c.d c.d xs fun y => c.hsn h 15 y hn] <;> rfl
@[simp] theorem snap_lstI {h : PH} {t : Tg} {xs : List Int} : snapF h 16 (.lst t (xs.map .int)) = some (.lst (borT t) (xs.map .int)) := snap_of cInt (by decide)
@[simp] theorem snap_lstS {h : PH} {t : Tg} {xs : List (List Int)} : snapF h 16 (.lst t (xs.map cStand.d)) = some (.lst (borT t) (xs.map cStand.d)) := snap_of cStand (by decide)
theorem snap_loc_of {α : Type} [DecidableEq α] (c : Cd α) (hn : c.n < 15) {h : PH} {n : Nat} {xs : List α} (e : h[n]? = some (.lst (xs.map c.d))) : snapF h 16 (.loc n) = some (.lst .bor (xs.map c.d)) := by
  simp only [snapF, e]
  rw [optAll_of c.d c.d xs fun y => c.hsn h 15 y hn]
  rfl
theorem res_loc_of {α : Type} [DecidableEq α] (c : Cd α) (hn : c.n < 15) {h : PH} {n : Nat} {xs : List α} (e : h[n]? = some (.lst (xs.map c.d))) : resF h 16 (.loc n) = some (.lst .own (xs.map c.d)) := by
  simp only [resF, e]
  rw [optAll_of c.d c.d xs fun y => c.hrs h 15 y hn]
  rfl
@[simp] theorem cStand_sum {s : List Int} {h : PH} : fSum [cStand.d s] h = .ok (.int s.sum) h := by simp [cStand_d]
theorem pd_lst_of {α : Type} [DecidableEq α] (c : Cd α) (hn : c.n < 63) {h : PH} {t : Tg} {xs : List α} : pdF h 64 (.lst t (xs.map c.d)) = some (.list (xs.map c.p)) := by
  simp only [pdF]
  rw [optAll_of c.d c.p xs fun y => c.hpd h 63 y hn]
  rfl
theorem pd_loc_of {α : Type} [DecidableEq α] (c : Cd α) (hn : c.n < 63) {h : PH} {n : Nat} {xs : List α} (e : h[n]? = some (.lst (xs.map c.d))) : pdF h 64 (.loc n) = some (.list (xs.map c.p)) := by
  simp only [pdF, e]
  rw [optAll_of c.d c.p xs fun y => c.hpd h 63 y hn]
  rfl
theorem oNe_lst_of {α : Type} [DecidableEq α] (c : Cd α) (hn : c.n < 63) {h : PH} {t t' : Tg} {xs ys : List α} : oNe (.lst t (xs.map c.d)) (.lst t' (ys.map c.d)) h = .ok (.bl (!decide (xs = ys))) h := by
  simp only [oNe, pd_lst_of c hn, PyData.eqv]
  rw [eqvAll_of c.heq]
theorem oEq_lst_of {α : Type} [DecidableEq α] (c : Cd α) (hn : c.n < 63) {h : PH} {t t' : Tg} {xs ys : List α} : oEq (.lst t (xs.map c.d)) (.lst t' (ys.map c.d)) h = .ok (.bl (decide (xs = ys))) h := by
  simp only [oEq, pd_lst_of c hn, PyData.eqv]
  rw [eqvAll_of c.heq]
@[simp] theorem oNe_lstI {h : PH} {t t' : Tg} {xs ys : List Int} : oNe (.lst t (xs.map .int)) (.lst t' (ys.map .int)) h = .ok (.bl (!decide (xs = ys))) h := oNe_lst_of cInt (by decide)
@[simp] theorem oEq_lstI {h : PH} {t t' : Tg} {xs ys : List Int} : oEq (.lst t (xs.map .int)) (.lst t' (ys.map .int)) h = .ok (.bl (decide (xs = ys))) h := oEq_lst_of cInt (by decide)
@[simp] theorem oNe_lstS {h : PH} {t t' : Tg} {xs ys : List (List Int)} : oNe (.lst t (xs.map cStand.d)) (.lst t' (ys.map cStand.d)) h = .ok (.bl (!decide (xs = ys))) h := oNe_lst_of cStand (by decide)
@[simp] theorem oEq_lstS {h : PH} {t t' : Tg} {xs ys : List (List Int)} : oEq (.lst t (xs.map cStand.d)) (.lst t' (ys.map cStand.d)) h = .ok (.bl (decide (xs = ys))) h := oEq_lst_of cStand (by decide)
@[simp] theorem borT_cst : borT .cst = .cst := rfl
@[simp] theorem borT_own : borT .own = .bor := rfl
@[simp] theorem borT_bor : borT .bor = .bor := rfl
theorem oNe_loc_of {α : Type} [DecidableEq α] (c : Cd α) (hn : c.n < 63) {h : PH} {n m : Nat} {xs ys : List α} (e1 : h[n]? = some (.lst (xs.map c.d))) (e2 : h[m]? = some (.lst (ys.map c.d))) : oNe (.loc n) (.loc m) h = .ok (.bl (!decide (xs = ys))) h := by
  simp only [oNe, pd_loc_of c hn e1, pd_loc_of c hn e2, PyData.eqv]
  rw [eqvAll_of c.heq]
theorem cut_to {α : Type} (xs : List α) (m : Nat) : cutG xs none (some (m : Int)) = xs.take m := by
  unfold cutG HT.sIx
  simp only [List.drop_zero, Nat.sub_zero]
  rw [if_neg (by omega)]
  rw [List.take_eq_take_iff]
  omega
theorem cut_but {α : Type} (xs : List α) (x : α) : cutG (xs ++ [x]) none (some (-1)) = xs := by
  unfold cutG HT.sIx
  simp only [List.drop_zero, Nat.sub_zero, List.length_append, List.length_singleton]
  rw [if_pos (by omega), show ((-1 : Int) + ((xs.length + 1 : Nat) : Int)).toNat = xs.length by omega, List.take_left]
theorem res_ofk {α : Type} [DecidableEq α] (c : Cd α) {k : Nat} (hn : c.n < k) {h : PH} {xs : List α} : resF h (k + 1) (.lst .own (xs.map c.d)) = some (.lst .own (xs.map c.d)) := by
  simp only [resF]
  rw [optAll_of c.d c.d xs fun y => c.hrs h k y hn]
  rfl
@[simp] theorem oNe_bl {h : PH} {i j : Bool} : oNe (.bl i) (.bl j) h = .ok (.bl (!decide (i = j))) h := by simp [oNe, PyData.eqv, beq_dec]
@[simp] theorem oEq_bl {h : PH} {i j : Bool} : oEq (.bl i) (.bl j) h = .ok (.bl (decide (i = j))) h := by simp [oEq, PyData.eqv, beq_dec]
theorem oEq_str {h : PH} {i j : Str} (hi : PyData.strOk i = true) (hj : PyData.strOk j = true) : oEq (.str i) (.str j) h = .ok (.bl (i == j)) h := by simp only [oEq, pdF, hi, hj, if_true, PyData.eqv]
end R
namespace R
open PySem PySem.Spec PyProof.Rows L2
/-! ### sums over places -/
def sumR (f : Nat → Int) : Nat → Int
  | 0 => 0
  | n + 1 => sumR f n + f n
theorem sumR_congr {f g : Nat → Int} : ∀ {n : Nat}, (∀ i, i < n → f i = g i) → sumR f n = sumR g n
  | 0, _ => rfl
  | n + 1, h => by rw [sumR, sumR, sumR_congr fun i hi => h i (by omega), h n (by omega)]
theorem sumR_add (f g : Nat → Int) : ∀ n, sumR (fun i => f i + g i) n = sumR f n + sumR g n
  | 0 => rfl
  | n + 1 => by simp only [sumR, sumR_add f g n]; omega
theorem sumR_mul (c : Int) (f : Nat → Int) : ∀ n, sumR (fun i => c * f i) n = c * sumR f n
  | 0 => by simp [sumR]
  | n + 1 => by simp only [sumR, sumR_mul c f n, Int.mul_add]
theorem sumR_neg (f : Nat → Int) : ∀ n, sumR (fun i => - f i) n = - sumR f n
  | 0 => rfl
  | n + 1 => by simp only [sumR, sumR_neg f n]; omega
theorem sumR_zero : ∀ n, sumR (fun _ => 0) n = 0
  | 0 => rfl
  | n + 1 => by simp only [sumR, sumR_zero n]; rfl
theorem sumR_le {f g : Nat → Int} : ∀ {n : Nat}, (∀ i, i < n → f i ≤ g i) → sumR f n ≤ sumR g n
  | 0, _ => Int.le_refl _
  | n + 1, h => by
    have := sumR_le (n := n) fun i hi => h i (by omega)
    have := h n (by omega)
    simp only [sumR]
    omega
theorem sumR_set (f : Nat → Int) (k : Nat) (d : Int) : ∀ {n : Nat}, k < n → sumR (fun i => if i = k then f i + d else f i) n = sumR f n + d
  | 0, h => absurd h (by omega)
  | n + 1, h => by
    simp only [sumR]
    by_cases e : n = k
    · subst e
      rw [sumR_congr (g := f) fun i hi => if_neg (by omega), if_pos rfl]
      omega
    · rw [sumR_set f k d (by omega), if_neg e]
      omega
theorem sumR_swap (f : Nat → Nat → Int) (m : Nat) : ∀ n, sumR (fun i => sumR (fun j => f i j) m) n = sumR (fun j => sumR (fun i => f i j) n) m
  | 0 => by simp only [sumR, sumR_zero]
  | n + 1 => by simp only [sumR, sumR_swap f m n, sumR_add]
def vA (s : List Int) (p : Nat) : Int := s[p]?.getD 0
theorem vA_at {s : List Int} {p : Nat} (h : p < s.length) : s[p]? = some (vA s p) := by
  rw [vA, List.getElem?_eq_getElem h]
  rfl
theorem sum_vA : ∀ s : List Int, s.sum = sumR (vA s) s.length := by
  suffices h : ∀ (s : List Int) (n : Nat), n ≤ s.length → (s.take n).sum = sumR (vA s) n from fun s => by simpa using h s s.length (Nat.le_refl _)
  intro s n
  induction n with
  | zero => intro _; rfl
  | succ n ih =>
    intro h
    rw [List.take_succ, List.sum_append, ih (by omega), sumR, vA_at (by omega)]
    simp
theorem sum_map_range (f : Nat → Int) : ∀ n, ((List.range n).map f).sum = sumR f n
  | 0 => rfl
  | n + 1 => by rw [List.range_succ, List.map_append, List.sum_append, sum_map_range f n]; simp [sumR]
structure Stand (n : Nat) (s : List Int) : Prop where
  len : s.length = n
  bit : ∀ x ∈ s, x = 0 ∨ x = 1
theorem Stand.at {n : Nat} {s : List Int} (h : Stand n s) {p : Nat} (hp : p < n) : vA s p = 0 ∨ vA s p = 1 := by
  have := vA_at (s := s) (p := p) (by rw [h.len]; exact hp)
  exact h.bit _ (List.mem_of_getElem? this)
def rowA (W : Web) (p : Nat) : List (Int × Int) := W.ties[p]?.getD []
theorem rowA_at {W : Web} {p : Nat} (h : p < W.ties.length) : W.ties[p]? = some (rowA W p) := by
  rw [rowA, List.getElem?_eq_getElem h]
  rfl
def barA (W : Web) (p : Nat) : Int := vA W.bars p
def stayA (W : Web) (p : Nat) : Option Int := W.stays[p]?.getD none
theorem stayA_at {W : Web} {p : Nat} (h : p < W.stays.length) : W.stays[p]? = some (stayA W p) := by
  rw [stayA, List.getElem?_eq_getElem h]
  rfl
/-- the shape every program of ours counts on -/
structure Shape (n : Nat) (W : Web) : Prop where
  ties : W.ties.length = n
  bars : W.bars.length = n
  stays : W.stays.length = n
  small : n ≤ 1000
  rows : ∀ r ∈ W.ties, rowIn n r ∧ r.length ≤ 1000
theorem Shape.row {n : Nat} {W : Web} (h : Shape n W) {p : Nat} (hp : p < n) : W.ties[p]? = some (rowA W p) ∧ rowIn n (rowA W p) ∧ (rowA W p).length ≤ sizeLine := by
  have e := rowA_at (W := W) (p := p) (by rw [h.ties]; exact hp)
  have := h.rows _ (List.mem_of_getElem? e)
  have := h.small
  rw [line_eq]
  exact ⟨e, ‹_ ∧ _›.1, by omega⟩
theorem Shape.bar {n : Nat} {W : Web} (h : Shape n W) {p : Nat} (hp : p < n) : W.bars[p]? = some (barA W p) := vA_at (by rw [h.bars]; exact hp)
/-- the weighted sum over a row -/
def rowS (f : Nat → Int) (r : List (Int × Int)) : Int := (r.map fun q => q.2 * f q.1.toNat).sum
theorem pulledI_eq {n : Nat} {s : List Int} (hs : Stand n s) {r : List (Int × Int)} (hr : rowIn n r) : pulledI s r = rowS (vA s) r := by
  unfold pulledI rowS
  induction r with
  | nil => rfl
  | cons q r ih =>
    have hq := hr q List.mem_cons_self
    have ih := ih fun x hx => hr x (List.mem_cons_of_mem _ hx)
    have e : atI s q.1 = some (vA s q.1.toNat) := by rw [atI_nn _ hq.1, vA_at (by rw [hs.len]; omega)]
    rw [List.filterMap_cons, List.map_cons, List.sum_cons, ← ih, e]
    rcases hs.at (p := q.1.toNat) (by omega) with z | z <;> rw [z] <;> simp
theorem rowS_perm {f : Nat → Int} {r r' : List (Int × Int)} (h : r.Perm r') : rowS f r = rowS f r' := by
  unfold rowS
  induction h with
  | nil => rfl
  | cons x _ ih => simp only [List.map_cons, List.sum_cons, ih]
  | swap x y l => simp only [List.map_cons, List.sum_cons]; omega
  | trans _ _ i1 i2 => exact i1.trans i2
theorem rowS_append {f : Nat → Int} {r r' : List (Int × Int)} : rowS f (r ++ r') = rowS f r + rowS f r' := by
  unfold rowS
  rw [List.map_append, List.sum_append]
theorem rowS_le {f g : Nat → Int} {r : List (Int × Int)} (h : ∀ q ∈ r, q.2 * f q.1.toNat ≤ q.2 * g q.1.toNat) : rowS f r ≤ rowS g r := by
  unfold rowS
  induction r with
  | nil => exact Int.le_refl _
  | cons q r ih =>
    have := h q List.mem_cons_self
    have := ih fun x hx => h x (List.mem_cons_of_mem _ hx)
    simp only [List.map_cons, List.sum_cons]
    omega
def tieS (T : List (List (Int × Int))) (f : Nat → Nat → Int) (n : Nat) : Int := sumR (fun p => rowS (fun q => f q p) (T[p]?.getD [])) n
def SymT (n : Nat) (T : List (List (Int × Int))) : Prop := ∀ f, tieS T f n = tieS T (fun a b => f b a) n
theorem irange_at {n i : Nat} {d : D} (h : (irange 0 n)[i]? = some d) : i < n ∧ d = .int i := by
  unfold irange at h
  simp only [List.getElem?_map, Option.map_eq_some_iff] at h
  obtain ⟨j, h1, rfl⟩ := h
  obtain ⟨h2, h3⟩ := List.getElem?_eq_some_iff.mp h1
  simp at h2 h3
  subst h3
  exact ⟨h2, by simp⟩
@[simp] theorem irange_len {lo : Int} {n : Nat} : (irange lo n).length = n := by simp [irange]
theorem tieS_zero {T : List (List (Int × Int))} {f : Nat → Nat → Int} : tieS T f 0 = 0 := rfl
theorem tieS_succ {W : Web} {f : Nat → Nat → Int} {i : Nat} : tieS W.ties f (i + 1) = tieS W.ties f i + rowS (fun q => f q i) (rowA W i) := rfl
theorem irange_eq {n : Nat} : irange 0 n = (List.range n).map fun i : Nat => D.int (0 + (i : Nat)) := rfl
theorem range_small {n : Nat} (h : n ≤ 1000) : (List.range n).length ≤ sizeLine := by rw [line_eq]; simp; omega
end R
namespace R
open PySem PySem.Spec PyProof.Rows L2
/-! ### a heap in pieces -/
theorem seg_get {α : Type} {A S B : List α} {p k : Nat} {x : α} (hp : A.length = p) (hx : S[k]? = some x) : (A ++ (S ++ B))[p + k]? = some x := by
  have hk := (List.getElem?_eq_some_iff.mp hx).1
  rw [List.getElem?_append_right (by omega), hp, Nat.add_sub_cancel_left, List.getElem?_append_left hk, hx]
theorem seg_set {α : Type} {A S B : List α} {p k : Nat} {x : α} (hp : A.length = p) (hk : k < S.length) : (A ++ (S ++ B)).set (p + k) x = A ++ (S.set k x ++ B) := by
  rw [List.set_append, if_neg (by omega), hp, Nat.add_sub_cancel_left, List.set_append, if_pos hk]
def locs (a n : Nat) : List D := (List.range n).map fun i => D.loc (a + i)
@[simp] theorem locs_len {a n : Nat} : (locs a n).length = n := by simp [locs]
theorem locs_at {a n k : Nat} (h : k < n) : (locs a n)[k]? = some (.loc (a + k)) := by simp [locs, h]
theorem locs_succ {a n : Nat} : locs a (n + 1) = locs a n ++ [.loc (a + n)] := by simp [locs, List.range_succ]
def cellH (z : Int) : HB := .lst [.int z]
def rowH (r : List (Int × Int)) : HB := .lst (r.map dPair)
/-- the heap of a web under way -/
def hW (c : Int) (zs : List Int) (T : List (List (Int × Int))) (J : PH) : PH := [cellH c] ++ (zs.map cellH ++ ([.lst (locs 1 zs.length)] ++ (T.map rowH ++ ([.lst (locs (zs.length + 2) T.length)] ++ J))))
section
variable {c z : Int} {zs : List Int} {T : List (List (Int × Int))} {J : PH} {n k : Nat} {o : HB} {r : List (Int × Int)}
theorem hW_0 : (hW c zs T J)[0]? = some (.lst [.int c]) := rfl
theorem hW_cell (hn : zs.length = n) (hk : k < n) : (hW c zs T J)[1 + k]? = some (.lst [.int (vA zs k)]) := by
  refine seg_get rfl ?_
  rw [List.getElem?_map, vA_at (by omega)]
  rfl
theorem hW_states (hn : zs.length = n) : (hW c zs T J)[n + 1]? = some (.lst (locs 1 n)) := by
  subst hn
  unfold hW
  rw [← List.append_assoc]
  have := seg_get (A := [cellH c] ++ zs.map cellH) (S := [HB.lst (locs 1 zs.length)]) (B := T.map rowH ++ ([.lst (locs (zs.length + 2) T.length)] ++ J)) (p := zs.length + 1) (k := 0) (x := .lst (locs 1 zs.length)) (by simp) rfl
  exact this
theorem hW_row (hn : zs.length = n) (hr : T[k]? = some r) : (hW c zs T J)[n + 2 + k]? = some (.lst (r.map dPair)) := by
  subst hn
  unfold hW
  rw [← List.append_assoc, ← List.append_assoc]
  refine seg_get (by simp <;> omega) ?_
  rw [List.getElem?_map, hr]
  rfl
theorem hW_ties (hn : zs.length = n) (ht : T.length = n) : (hW c zs T J)[2 * n + 2]? = some (.lst (locs (n + 2) n)) := by
  unfold hW
  rw [← List.append_assoc, ← List.append_assoc, ← List.append_assoc]
  have := seg_get (A := [cellH c] ++ zs.map cellH ++ [HB.lst (locs 1 zs.length)] ++ T.map rowH) (S := [HB.lst (locs (zs.length + 2) T.length)]) (B := J) (p := 2 * n + 2) (k := 0) (x := .lst (locs (zs.length + 2) T.length)) (by simp <;> omega) rfl
  rw [hn, ht] at this
  rw [hn, ht]
  exact this
theorem hW_J (hn : zs.length = n) (ht : T.length = n) (e : J[k]? = some o) : (hW c zs T J)[2 * n + 3 + k]? = some o := by
  unfold hW
  rw [← List.append_assoc, ← List.append_assoc, ← List.append_assoc, ← List.append_assoc]
  have := seg_get (A := [cellH c] ++ zs.map cellH ++ [HB.lst (locs 1 zs.length)] ++ T.map rowH ++ [HB.lst (locs (zs.length + 2) T.length)]) (S := J) (B := []) (p := 2 * n + 3) (k := k) (x := o) (by simp <;> omega) e
  rw [List.append_nil] at this
  exact this
theorem hW_set0 : (hW c zs T J).set 0 (.lst [.int z]) = hW z zs T J := rfl
theorem hW_setcell (hn : zs.length = n) (hk : k < n) : (hW c zs T J).set (1 + k) (.lst [.int z]) = hW c (zs.set k z) T J := by
  unfold hW
  rw [seg_set (A := [cellH c]) (p := 1) (by simp) (by simp <;> omega), List.map_set, List.length_set]
  rfl
theorem hW_setrow (hn : zs.length = n) (hk : k < T.length) : (hW c zs T J).set (n + 2 + k) (.lst (r.map dPair)) = hW c zs (T.set k r) J := by
  subst hn
  unfold hW
  rw [← List.append_assoc, ← List.append_assoc, seg_set (by simp <;> omega) (by simpa using hk), List.map_set, List.length_set, List.append_assoc, List.append_assoc]
  rfl
theorem hW_setJ (hn : zs.length = n) (ht : T.length = n) (hk : k < J.length) : (hW c zs T J).set (2 * n + 3 + k) o = hW c zs T (J.set k o) := by
  unfold hW
  rw [← List.append_assoc, ← List.append_assoc, ← List.append_assoc, ← List.append_assoc]
  have := seg_set (A := [cellH c] ++ zs.map cellH ++ [HB.lst (locs 1 zs.length)] ++ T.map rowH ++ [HB.lst (locs (zs.length + 2) T.length)]) (S := J) (B := []) (p := 2 * n + 3) (k := k) (x := o) (by simp <;> omega) hk
  rw [List.append_nil, List.append_nil] at this
  rw [this]
  simp only [List.append_assoc]
theorem hW_len (hn : zs.length = n) (ht : T.length = n) : (hW c zs T J).length = 2 * n + 3 + J.length := by
  simp [hW]
  omega
theorem hW_snoc : hW c zs T J ++ [o] = hW c zs T (J ++ [o]) := by simp [hW]
end
/-- a good row of person p -/
def rowG (n p : Nat) (r : List (Int × Int)) : Prop := ∀ x ∈ r, 0 ≤ x.1 ∧ x.1 < n ∧ x.1 ≠ p ∧ 1 ≤ x.2 ∧ x.2 ≤ 400
structure TieG (n m : Nat) (T : List (List (Int × Int))) : Prop where
  len : T.length = n
  row : ∀ (p : Nat) r, T[p]? = some r → rowG n p r ∧ r.length ≤ m
  sym : SymT n T
  mir : ∀ (p : Nat) r, T[p]? = some r → ∀ x ∈ r, ∃ r', T[x.1.toNat]? = some r' ∧ ((p : Int), x.2) ∈ r'
theorem tieG_none {n : Nat} : TieG n 0 (List.replicate n []) := by
  refine ⟨by simp, fun p r e => ?_, fun f => ?_, fun p r e => ?_⟩
  · have := List.mem_of_getElem? e
    rw [(List.mem_replicate.mp this).2]
    exact ⟨fun x hx => (by cases hx), Nat.zero_le _⟩
  · have : ∀ g : Nat → Nat → Int, tieS (List.replicate n []) g n = 0 := fun g => by
      unfold tieS
      rw [sumR_congr (g := fun _ => 0) fun i hi => by simp [hi, rowS], sumR_zero]
    rw [this, this]
  · have := List.mem_of_getElem? e
    rw [(List.mem_replicate.mp this).2]
    intro x hx
    cases hx
/-- one tie more -/
def addT (T : List (List (Int × Int))) (k j : Nat) (w : Int) : List (List (Int × Int)) := (T.set k (T[k]?.getD [] ++ [((j : Int), w)])).set j ((T.set k (T[k]?.getD [] ++ [((j : Int), w)]))[j]?.getD [] ++ [((k : Int), w)])
theorem addT_at {T : List (List (Int × Int))} {k j : Nat} {w : Int} (hk : k < T.length) (hj : j < T.length) (hne : j ≠ k) (p : Nat) : (addT T k j w)[p]?.getD [] = (T[p]?.getD []) ++ (if p = k then [((j : Int), w)] else if p = j then [((k : Int), w)] else []) := by
  unfold addT
  by_cases h1 : p = k
  · subst h1
    rw [List.getElem?_set_ne (by omega), List.getElem?_set_self hk, if_pos rfl]
    rfl
  · by_cases h2 : p = j
    · subst h2
      rw [List.getElem?_set_self (by simpa using hj), List.getElem?_set_ne (by omega), if_neg h1, if_pos rfl]
      rfl
    · rw [List.getElem?_set_ne (by omega), List.getElem?_set_ne (by omega), if_neg h1, if_neg h2, List.append_nil]
theorem addT_tieS {T : List (List (Int × Int))} {n k j : Nat} {w : Int} (hl : T.length = n) (hk : k < n) (hj : j < n) (hne : j ≠ k) (f : Nat → Nat → Int) : tieS (addT T k j w) f n = tieS T f n + w * f j k + w * f k j := by
  unfold tieS
  have e : ∀ p, p < n → rowS (fun q => f q p) ((addT T k j w)[p]?.getD []) = (if p = j then (if p = k then rowS (fun q => f q p) (T[p]?.getD []) + w * f j k else rowS (fun q => f q p) (T[p]?.getD [])) + w * f k j else (if p = k then rowS (fun q => f q p) (T[p]?.getD []) + w * f j k else rowS (fun q => f q p) (T[p]?.getD []))) := by
    intro p hp
    rw [addT_at (by omega) (by omega) (by omega), rowS_append]
    by_cases h1 : p = k
    · subst h1
      rw [if_pos rfl, if_pos rfl, if_neg (by omega)]
      simp [rowS]
    · by_cases h2 : p = j
      · subst h2
        rw [if_neg h1, if_pos rfl, if_pos rfl, if_neg h1]
        simp [rowS]
      · rw [if_neg h1, if_neg h2, if_neg h2, if_neg h1]
        simp [rowS]
  rw [sumR_congr e, sumR_set (fun p => if p = k then rowS (fun q => f q p) (T[p]?.getD []) + w * f j k else rowS (fun q => f q p) (T[p]?.getD [])) j (w * f k j) (by omega), sumR_set (fun p => rowS (fun q => f q p) (T[p]?.getD [])) k (w * f j k) hk]
theorem TieG.add' {n m k j : Nat} {T : List (List (Int × Int))} {w : Int} (g : TieG n m T) (hk : k < n) (hj : j < n) (hne : j ≠ k) (h1 : 1 ≤ w) (h2 : w ≤ 400) : TieG n (m + 1) (addT T k j w) := by
  have hlen : (addT T k j w).length = n := by simp [addT, g.len]
  have at' : ∀ (p : Nat) r, (addT T k j w)[p]? = some r → p < n ∧ r = (T[p]?.getD []) ++ (if p = k then [((j : Int), w)] else if p = j then [((k : Int), w)] else []) := by
    intro p r e
    have := addT_at (T := T) (k := k) (j := j) (w := w) (by rw [g.len]; omega) (by rw [g.len]; omega) (by omega) p
    rw [e] at this
    exact ⟨by have := (List.getElem?_eq_some_iff.mp e).1; omega, this⟩
  have old : ∀ p : Nat, p < n → ∃ r, T[p]? = some r := fun p hp => ⟨T[p]'(by rw [g.len]; exact hp), List.getElem?_eq_getElem _⟩
  refine ⟨hlen, fun p r e => ?_, fun f => ?_, fun p r e x hx => ?_⟩
  · obtain ⟨hp, rfl⟩ := at' p r e
    obtain ⟨r0, e0⟩ := old p hp
    obtain ⟨a, b⟩ := g.row p r0 e0
    rw [e0]
    constructor
    · intro x hx
      rcases List.mem_append.mp hx with hx | hx
      · exact a x hx
      · by_cases c1 : p = k
        · rw [if_pos c1] at hx
          obtain rfl := List.mem_singleton.mp hx
          exact ⟨by simp, by simp; omega, by simp; omega, h1, h2⟩
        · rw [if_neg c1] at hx
          by_cases c2 : p = j
          · rw [if_pos c2] at hx
            obtain rfl := List.mem_singleton.mp hx
            exact ⟨by simp, by simp; omega, by simp; omega, h1, h2⟩
          · rw [if_neg c2] at hx
            cases hx
    · simp only [Option.getD_some, List.length_append]
      split
      · simp; omega
      · split <;> simp <;> omega
  · rw [addT_tieS g.len hk hj hne, addT_tieS g.len hk hj hne, g.sym f]
    omega
  · obtain ⟨hp, rfl⟩ := at' p r e
    obtain ⟨r0, e0⟩ := old p hp
    have mk : ∀ q : Nat, q < n → ∃ r', (addT T k j w)[q]? = some r' ∧ r' = (T[q]?.getD []) ++ (if q = k then [((j : Int), w)] else if q = j then [((k : Int), w)] else []) := fun q hq => by
      have hq' : q < (addT T k j w).length := by rw [hlen]; exact hq
      exact ⟨_, List.getElem?_eq_getElem hq', (at' q _ (List.getElem?_eq_getElem hq')).2⟩
    rcases List.mem_append.mp hx with hx | hx
    · rw [e0] at hx
      obtain ⟨r', e', m'⟩ := g.mir p r0 e0 x hx
      have hq : x.1.toNat < n := by have := (List.getElem?_eq_some_iff.mp e').1; rw [g.len] at this; exact this
      obtain ⟨r2, e2, rfl⟩ := mk _ hq
      exact ⟨_, e2, List.mem_append_left _ (by rw [e']; exact m')⟩
    · by_cases c1 : p = k
      · rw [if_pos c1] at hx
        obtain rfl := List.mem_singleton.mp hx
        obtain ⟨r2, e2, rfl⟩ := mk j (by omega)
        refine ⟨_, by simpa using e2, List.mem_append_right _ ?_⟩
        simp [c1, show j ≠ k by omega]
      · rw [if_neg c1] at hx
        by_cases c2 : p = j
        · rw [if_pos c2] at hx
          obtain rfl := List.mem_singleton.mp hx
          obtain ⟨r2, e2, rfl⟩ := mk k (by omega)
          refine ⟨_, by simpa using e2, List.mem_append_right _ ?_⟩
          simp [c2]
        · rw [if_neg c2] at hx
          cases hx
theorem TieG.add {n m k j : Nat} {T : List (List (Int × Int))} {w : Int} (g : TieG n m T) (hk : k < n) (hj : j < k) (h1 : 1 ≤ w) (h2 : w ≤ 400) : TieG n (m + 1) (addT T k j w) := g.add' hk (by omega) (by omega) h1 h2
theorem TieG.mono {n m m' : Nat} {T : List (List (Int × Int))} (g : TieG n m T) (h : m ≤ m') : TieG n m' T := ⟨g.len, fun p r e => ⟨(g.row p r e).1, Nat.le_trans (g.row p r e).2 h⟩, g.sym, g.mir⟩
theorem hW_app {c : Int} {zs : List Int} {T : List (List (Int × Int))} {J : PH} {n k : Nat} {r : List (Int × Int)} (hn : zs.length = n) (er : T[k]? = some r) (hz : r.length ≤ 1000) (a b : Int) : fAppend (.loc (n + 2 + k)) [.tup [.int a, .int b]] (hW c zs T J) = .ok .non (hW c zs (T.set k (r ++ [(a, b)])) J) := by
  rw [app_at (hW_row hn er) (by rw [line_eq]; simp; omega)]
  have := hW_setrow (c := c) (J := J) (r := r ++ [(a, b)]) hn (List.getElem?_eq_some_iff.mp er).1
  rw [List.map_append] at this
  exact congrArg _ this
theorem optAll_pair (r : List (Int × Int)) : optAll asPair (r.map dPair) = some r := by
  have := optAll_map (f := asPair) dPair (id : Int × Int → Int × Int) r fun x _ => rfl
  simpa using this
theorem fSortP_at {fz : Bool} {h : PH} {n : Nat} {r : List (Int × Int)} (e : h[n]? = some (.lst (r.map dPair))) : fSortP fz [.loc n] h = mkL fz ((sortP r).map dPair) h := by
  simp only [fSortP, getL_at e, Option.bind_some, optAll_pair]
theorem TieG.sorted {n m : Nat} {T : List (List (Int × Int))} (g : TieG n m T) : TieG n m (T.map sortP) := by
  have gt : ∀ p : Nat, (T.map sortP)[p]?.getD [] = sortP (T[p]?.getD []) := fun p => by
    rw [List.getElem?_map]
    cases T[p]? with
    | none => simp [sortP]
    | some r => rfl
  have ts : ∀ f : Nat → Nat → Int, tieS (T.map sortP) f n = tieS T f n := fun f => by
    unfold tieS
    exact sumR_congr fun p _ => by rw [gt]; exact rowS_perm (sortP_perm _)
  refine ⟨by rw [List.length_map]; exact g.len, fun p r e => ?_, fun f => by rw [ts, ts]; exact g.sym f, fun p r e x hx => ?_⟩
  · rw [List.getElem?_map, Option.map_eq_some_iff] at e
    obtain ⟨r0, e, rfl⟩ := e
    obtain ⟨a, b⟩ := g.row p r0 e
    exact ⟨fun x hx => a x ((sortP_perm r0).mem_iff.mp hx), by rw [(sortP_perm r0).length_eq]; exact b⟩
  · rw [List.getElem?_map, Option.map_eq_some_iff] at e
    obtain ⟨r0, e, rfl⟩ := e
    obtain ⟨r', e', m'⟩ := g.mir p r0 e x ((sortP_perm r0).mem_iff.mp hx)
    exact ⟨sortP r', by rw [List.getElem?_map, e']; rfl, (sortP_perm r').mem_iff.mpr m'⟩
theorem map_range_rows (T : List (List (Int × Int))) {n : Nat} (h : T.length = n) : (List.range n).map (fun i => sortP (T[i]?.getD [])) = T.map sortP := by
  apply List.ext_getElem?
  intro i
  rw [List.getElem?_map, List.getElem?_map]
  by_cases hi : i < n
  · rw [List.getElem?_range hi, List.getElem?_eq_getElem (by omega)]
    simp [List.getElem?_eq_getElem (show i < T.length by omega)]
  · rw [List.getElem?_eq_none (by simp; omega), List.getElem?_eq_none (by omega)]
    rfl
theorem hW_0T {c : Int} {zs : List Int} {n : Nat} (hn : zs.length = n) : [cellH c] ++ zs.map cellH ++ [.lst (locs 1 n)] ++ List.replicate n (rowH []) ++ [.lst (locs (n + 2) n)] = hW c zs (List.replicate n []) [] := by
  subst hn
  simp [hW]
/-- the heap of a law that has made its web -/
def hS (c : Int) (zs : List Int) (J : PH) : PH := [cellH c] ++ (zs.map cellH ++ ([.lst (locs 1 zs.length)] ++ J))
section
variable {c z : Int} {zs : List Int} {J : PH} {n k : Nat} {o : HB}
theorem hS_0 : (hS c zs J)[0]? = some (.lst [.int c]) := rfl
theorem hS_cell (hn : zs.length = n) (hk : k < n) : (hS c zs J)[1 + k]? = some (.lst [.int (vA zs k)]) := by
  refine seg_get rfl ?_
  rw [List.getElem?_map, vA_at (by omega)]
  rfl
theorem hS_states (hn : zs.length = n) : (hS c zs J)[n + 1]? = some (.lst (locs 1 n)) := by
  subst hn
  unfold hS
  rw [← List.append_assoc]
  exact seg_get (A := [cellH c] ++ zs.map cellH) (S := [HB.lst (locs 1 zs.length)]) (B := J) (p := zs.length + 1) (k := 0) (x := .lst (locs 1 zs.length)) (by simp) rfl
theorem hS_J (hn : zs.length = n) (e : J[k]? = some o) : (hS c zs J)[n + 2 + k]? = some o := by
  unfold hS
  rw [← List.append_assoc, ← List.append_assoc]
  have := seg_get (A := [cellH c] ++ zs.map cellH ++ [HB.lst (locs 1 zs.length)]) (S := J) (B := []) (p := n + 2) (k := k) (x := o) (by simp; omega) e
  rw [List.append_nil] at this
  exact this
theorem hS_set0 : (hS c zs J).set 0 (.lst [.int z]) = hS z zs J := rfl
theorem hS_setcell (hn : zs.length = n) (hk : k < n) : (hS c zs J).set (1 + k) (.lst [.int z]) = hS c (zs.set k z) J := by
  unfold hS
  rw [seg_set (A := [cellH c]) (p := 1) (by simp) (by simp <;> omega), List.map_set, List.length_set]
  rfl
theorem hS_setJ (hn : zs.length = n) (hk : k < J.length) : (hS c zs J).set (n + 2 + k) o = hS c zs (J.set k o) := by
  unfold hS
  rw [← List.append_assoc, ← List.append_assoc]
  have := seg_set (A := [cellH c] ++ zs.map cellH ++ [HB.lst (locs 1 zs.length)]) (S := J) (B := []) (p := n + 2) (k := k) (x := o) (by simp; omega) hk
  rw [List.append_nil, List.append_nil] at this
  rw [this]
  simp only [List.append_assoc]
theorem hS_len (hn : zs.length = n) : (hS c zs J).length = n + 2 + J.length := by
  simp [hS]
  omega
theorem hS_snoc : hS c zs J ++ [o] = hS c zs (J ++ [o]) := by simp [hS]
end
/-- what a stand owes a web, place by place -/
def heldP (x : Int) (o : Option Int) : Prop := (x = 0 ∨ x = 1) ∧ (o = none ∨ o = some x)
theorem fits_of {n : Nat} {W : Web} (h : Shape n W) {s : List Int} (hs : s.length = n) (a : ∀ p, p < n → heldP (vA s p) (stayA W p)) : Stand n s ∧ fitsI W s = true := by
  refine ⟨⟨hs, fun x hx => ?_⟩, ?_⟩
  · obtain ⟨p, hp⟩ := List.getElem?_of_mem hx
    have hl := (List.getElem?_eq_some_iff.mp hp).1
    have := a p (by omega)
    have e := vA_at hl
    rw [hp] at e
    rw [Option.some.inj e]
    exact this.1
  · unfold fitsI
    rw [Bool.and_eq_true, List.all_eq_true]
    refine ⟨by rw [hs, h.ties]; simp, fun q hq => ?_⟩
    obtain ⟨p, hp⟩ := List.getElem?_of_mem hq
    obtain ⟨h1, h2⟩ := List.getElem?_zip_eq_some.mp hp
    have hl := (List.getElem?_eq_some_iff.mp h1).1
    have e1 := vA_at hl
    rw [h1] at e1
    have e2 := stayA_at (W := W) (p := p) (by rw [h.stays]; omega)
    rw [h2] at e2
    have := a p (by omega)
    unfold heldOk
    rw [Option.some.inj e1, Option.some.inj e2, Bool.and_eq_true, Bool.or_eq_true, decide_eq_true_iff, decide_eq_true_iff, decide_eq_true_iff]
    obtain ⟨a1, a2⟩ := this
    exact ⟨by omega, a2⟩
def iBar (b : Int) : Prop := -(10 ^ 60) < b ∧ b < 10 ^ 60
def iStay (o : Option Int) : Prop := o = none ∨ o = some 0 ∨ o = some 1
structure WebG (n : Nat) (W : Web) : Prop where
  shape : Shape n W
  pos : 1 ≤ n
  n30 : n ≤ 30
  tie : TieG n 1000 W.ties
  bar : ∀ b ∈ W.bars, iBar b
  stay : ∀ b ∈ W.stays, iStay b
def locsOf (a n : Nat) : D := .lst .own (locs a n)
end R
namespace R
open PySem PySem.Spec PyProof.Rows L2
/-! ### turns -/
def turnedI (W : Web) (s : List Int) (p : Nat) : Int := match stayA W p with
  | some x => x
  | none => if 2 * rowS (vA s) (rowA W p) = barA W p then vA s p else if barA W p < 2 * rowS (vA s) (rowA W p) then 1 else 0
def turnI (n : Nat) (W : Web) (s : List Int) : List Int := (List.range n).map (turnedI W s)
def StayOk (n : Nat) (W : Web) : Prop := ∀ p, p < n → iStay (stayA W p)
theorem WebG.stayOk {n : Nat} {W : Web} (h : WebG n W) : StayOk n W := fun p hp => h.stay _ (List.mem_of_getElem? (stayA_at (by rw [h.shape.stays]; exact hp)))
theorem turnI_at {n : Nat} {W : Web} {s : List Int} {p : Nat} (hp : p < n) : vA (turnI n W s) p = turnedI W s p := by
  unfold vA turnI
  rw [List.getElem?_map, List.getElem?_range hp]
  rfl
theorem turnI_fits {n : Nat} {W : Web} (h : Shape n W) (st : StayOk n W) {s : List Int} (hs : Stand n s) : Stand n (turnI n W s) ∧ fitsI W (turnI n W s) = true := by
  refine fits_of h (by simp [turnI]) fun p hp => ?_
  rw [turnI_at hp]
  unfold turnedI heldP
  rcases st p hp with e | e | e <;> rw [e] <;> simp only
  · refine ⟨?_, .inl trivial⟩
    split
    · exact hs.at hp
    · split
      · exact .inr rfl
      · exact .inl rfl
  · simp
  · simp
def itI (n : Nat) (W : Web) (s : List Int) : Nat → List Int
  | 0 => s
  | t + 1 => turnI n W (itI n W s t)
theorem itI_fits {n : Nat} {W : Web} (h : Shape n W) (st : StayOk n W) {s : List Int} (hs : Stand n s ∧ fitsI W s = true) : ∀ t, Stand n (itI n W s t) ∧ fitsI W (itI n W s t) = true
  | 0 => hs
  | t + 1 => turnI_fits h st (itI_fits h st hs t).1
def goI (n : Nat) (W : Web) (s : List Int) (k : Nat) : List (List Int) := (List.range (k + 1)).map (itI n W s)
theorem goI_len {n : Nat} {W : Web} {s : List Int} {k : Nat} : (goI n W s k).length = k + 1 := by simp [goI]
theorem goI_at {n : Nat} {W : Web} {s : List Int} {k i : Nat} (h : i ≤ k) : (goI n W s k)[i]? = some (itI n W s i) := by
  unfold goI
  rw [List.getElem?_map, List.getElem?_range (by omega)]
  rfl
theorem goI_succ {n : Nat} {W : Web} {s : List Int} {k : Nat} : goI n W s (k + 1) = goI n W s k ++ [itI n W s (k + 1)] := by
  unfold goI
  rw [List.range_succ, List.map_append]
  rfl
theorem atI_neg {α : Type} {xs : List α} {j : Nat} (h1 : 1 ≤ j) (h2 : j ≤ xs.length) : atI xs (-(j : Int)) = xs[xs.length - j]? := by
  unfold atI ixN
  rw [if_neg (by omega)]
  have : (-(j : Int) + xs.length).toNat = xs.length - j := by omega
  simp only [show (xs.length : Int) + -(j : Int) = ((xs.length - j : Nat) : Int) by omega, show -(j : Int) + (xs.length : Int) = ((xs.length - j : Nat) : Int) by omega]
  split
  · simp
  · rename_i h
    exact absurd h (by omega)
theorem goMap_succ {n : Nat} {W : Web} {s : List Int} (k : Nat) : (goI n W s (k + 1)).map cStand.d = (goI n W s k).map cStand.d ++ [cStand.d (itI n W s (k + 1))] := by
  rw [goI_succ, List.map_append]
  rfl
theorem cnt_at {h : PH} {n : Nat} {xs : List (Option Int)} (e : h[n]? = some (.lst (xs.map stayD))) : fCount (.loc n) [.non] h = .ok (.int ((xs.countP fun o => decide (o = none)) : Nat)) h := by
  have e1 : pdF h 64 (.loc n) = some (.list (xs.map cStay.p)) := pd_loc_of cStay (by decide) e
  unfold fCount
  simp only [e1, show pdF h 8 .non = some .none from rfl]
  rw [List.countP_map]
  have : ((fun z => PyData.eqv z PyData.none) ∘ cStay.p) = fun o => decide (o = none) := funext fun o => cStay.heq o none
  rw [this]
end R
namespace R
open PySem PySem.Spec PyProof.Rows L2
/-! ### the sums fall -/
def soTerm (W : Web) (a b : List Int) (p : Nat) : Int := (vA a p + vA b p) * (2 * barA W p + 1) - (if vA b p = 1 then 2 * (2 * rowS (vA a) (rowA W p)) + 2 * vA a p else 0)
def sumE (n : Nat) (W : Web) (a b : List Int) : Int := sumR (soTerm W a b) n
def unl (a c : List Int) (n : Nat) : Int := sumR (fun p => if vA a p = vA c p then 0 else 1) n
theorem rowS_mul (f : Nat → Int) (x : Int) (r : List (Int × Int)) : rowS (fun q => f q * x) r = rowS f r * x := by
  unfold rowS
  induction r with
  | nil => simp
  | cons y l ih => simp only [List.map_cons, List.sum_cons, ih, Int.add_mul, Int.mul_assoc]
theorem sumE_eq {n : Nat} {W : Web} {a b : List Int} (ha : Stand n a) (hb : Stand n b) : sumE n W a b = sumR (fun p => (vA a p + vA b p) * (2 * barA W p + 1) - 2 * (vA a p * vA b p)) n - 4 * tieS W.ties (fun q p => vA a q * vA b p) n := by
  unfold sumE
  have e : ∀ p, p < n → soTerm W a b p = ((vA a p + vA b p) * (2 * barA W p + 1) - 2 * (vA a p * vA b p)) + (-4) * rowS (fun q => vA a q * vA b p) (rowA W p) := by
    intro p hp
    rw [rowS_mul, soTerm]
    rcases hb.at hp with zb | zb <;> rw [zb] <;> simp <;> omega
  rw [sumR_congr e, sumR_add, sumR_mul]
  simp only [tieS, rowA]
  omega
/-- what a stand that fits holds where people stay -/
def Kept (n : Nat) (W : Web) (a : List Int) : Prop := ∀ p, p < n → ∀ x, stayA W p = some x → vA a p = x
theorem kept_of {n : Nat} {W : Web} (h : Shape n W) {a : List Int} (ha : Stand n a ∧ fitsI W a = true) : Kept n W a := by
  intro p hp x hx
  have := ha.2
  unfold fitsI at this
  rw [Bool.and_eq_true, List.all_eq_true] at this
  have e1 := vA_at (s := a) (p := p) (by rw [ha.1.len]; exact hp)
  have e2 := stayA_at (W := W) (p := p) (by rw [h.stays]; exact hp)
  have m : (vA a p, stayA W p) ∈ a.zip W.stays := List.mem_of_getElem? (List.getElem?_zip_eq_some.mpr ⟨e1, e2⟩)
  have := this.2 _ m
  unfold heldOk at this
  rw [hx] at this
  simp at this
  exact this.2.symm
theorem fall {n : Nat} {W : Web} (sy : SymT n W.ties) (st : StayOk n W) {a b : List Int} (ha : Stand n a) (ka : Kept n W a) (hb : Stand n b) (hc : Stand n (turnI n W b)) : sumE n W b (turnI n W b) + unl a (turnI n W b) n ≤ sumE n W a b := by
  rw [sumE_eq hb hc, sumE_eq ha hb, sy fun q p => vA a q * vA b p]
  unfold tieS unl
  rw [show ∀ x y z u v : Int, (x - 4 * y + z ≤ u - 4 * v) ↔ (x + (-4) * y + z ≤ u + (-4) * v) from fun x y z u v => by omega]
  rw [← sumR_mul, ← sumR_mul, ← sumR_add, ← sumR_add, ← sumR_add]
  refine sumR_le fun p hp => ?_
  have e1 : rowS (fun q => vA b q * vA (turnI n W b) p) (W.ties[p]?.getD []) = rowS (vA b) (rowA W p) * vA (turnI n W b) p := rowS_mul _ _ _
  have e2 : rowS (fun q => vA a p * vA b q) (W.ties[p]?.getD []) = rowS (vA b) (rowA W p) * vA a p := by
    rw [← rowS_mul, rowA]
    congr 1
    funext q
    exact Int.mul_comm _ _
  simp only [e1, e2]
  rw [turnI_at hp]
  generalize hf : rowS (vA b) (rowA W p) = f
  have k := ka p hp
  rcases ha.at hp with za | za <;> rcases hb.at hp with zb | zb <;> rcases st p hp with es | es | es <;> unfold turnedI <;> simp only [es, za, zb, hf] <;> first
    | (have := k _ es; rw [za] at this; exact absurd this (by decide))
    | (simp; done)
    | (split <;> (try split) <;> simp <;> omega)
    | (simp; omega)
theorem unl_pos {n : Nat} {a c : List Int} (ha : a.length = n) (hc : c.length = n) (h : a ≠ c) : 1 ≤ unl a c n := by
  obtain ⟨p, hp, hne⟩ : ∃ p, p < n ∧ vA a p ≠ vA c p := by
    apply Classical.byContradiction
    intro hno
    apply h
    apply List.ext_getElem?
    intro i
    by_cases hi : i < n
    · rw [vA_at (by omega), vA_at (s := c) (by omega)]
      apply congrArg
      apply Classical.byContradiction
      intro e
      exact hno ⟨i, hi, e⟩
    · rw [List.getElem?_eq_none (by omega), List.getElem?_eq_none (by omega)]
  have h1 := sumR_le (n := n) (f := fun i => if i = p then (fun _ => (0 : Int)) i + 1 else (fun _ => (0 : Int)) i) (g := fun q => if vA a q = vA c q then 0 else 1) fun i hi => by
    by_cases e : i = p
    · subst e
      simp [hne]
    · simp only [if_neg e]
      split <;> omega
  rw [sumR_set (fun _ => (0 : Int)) p 1 hp, sumR_zero] at h1
  unfold unl
  omega
theorem unl_nn {n : Nat} {a c : List Int} : 0 ≤ unl a c n := by
  have h1 := sumR_le (n := n) (f := fun _ => 0) (g := fun q => if vA a q = vA c q then 0 else 1) fun i _ => by split <;> omega
  rw [sumR_zero] at h1
  exact h1
/-- the energy of the turn t -/
def enI (n : Nat) (W : Web) (s : List Int) (t : Nat) : Int := sumE n W (itI n W s t) (itI n W s (t + 1))
theorem en_fall {n : Nat} {W : Web} (h : Shape n W) (sy : SymT n W.ties) (st : StayOk n W) {s : List Int} (hs : Stand n s ∧ fitsI W s = true) (t : Nat) : enI n W s (t + 1) + unl (itI n W s t) (itI n W s (t + 2)) n ≤ enI n W s t :=
  fall sy st (itI_fits h st hs t).1 (kept_of h (itI_fits h st hs t)) (itI_fits h st hs (t + 1)).1 (itI_fits h st hs (t + 2)).1
theorem en_lt {n : Nat} {W : Web} (h : Shape n W) (sy : SymT n W.ties) (st : StayOk n W) {s : List Int} (hs : Stand n s ∧ fitsI W s = true) {t : Nat} (ne : itI n W s t ≠ itI n W s (t + 2)) : enI n W s (t + 1) < enI n W s t := by
  have := en_fall h sy st hs t
  have := unl_pos (itI_fits h st hs t).1.len (itI_fits h st hs (t + 2)).1.len ne
  omega
theorem en_far {n : Nat} {W : Web} (h : Shape n W) (sy : SymT n W.ties) (st : StayOk n W) {s : List Int} (hs : Stand n s ∧ fitsI W s = true) {T : Nat} (ne : ∀ t, t < T → itI n W s t ≠ itI n W s (t + 2)) (i : Nat) : ∀ d, i + d ≤ T → 0 < d → enI n W s (i + d) < enI n W s i
  | 0, _, h0 => absurd h0 (by omega)
  | 1, hT, _ => en_lt h sy st hs (ne i (by omega))
  | d + 2, hT, _ => Int.lt_trans (en_lt h sy st hs (ne (i + (d + 1)) (by omega))) (en_far h sy st hs ne i (d + 1) (by omega) (by omega))
theorem it_inj {n : Nat} {W : Web} (h : Shape n W) (sy : SymT n W.ties) (st : StayOk n W) {s : List Int} (hs : Stand n s ∧ fitsI W s = true) {T : Nat} (ne : ∀ t, t < T → itI n W s t ≠ itI n W s (t + 2)) {i j : Nat} (hij : i < j) (hj : j ≤ T) : itI n W s i ≠ itI n W s j := by
  intro e
  have := en_far h sy st hs ne i (j - i) (by omega) (by omega)
  rw [show i + (j - i) = j by omega] at this
  unfold enI at this
  simp only [itI, e] at this
  omega
/-- pigeons -/
theorem pigeon : ∀ (m k : Nat) (f : Nat → Nat), (∀ i, i < k → f i < m) → (∀ i j, i < j → j < k → f i ≠ f j) → k ≤ m
  | 0, k, f, h1, _ => by
    by_cases z : k = 0
    · omega
    · exact absurd (h1 0 (by omega)) (by omega)
  | m + 1, k, f, h1, h2 => by
    by_cases ex : ∃ i, i < k ∧ f i = m
    · obtain ⟨i, hi, ei⟩ := ex
      have := pigeon m (k - 1) (fun q => f (if q < i then q else q + 1)) (fun q hq => by
        have a := h1 (if q < i then q else q + 1) (by split <;> omega)
        have b : f (if q < i then q else q + 1) ≠ m := by
          intro e
          by_cases z : q < i
          · rw [if_pos z] at e
            exact h2 q i z hi (by omega)
          · rw [if_neg z] at e
            exact h2 i (q + 1) (by omega) (by omega) (by omega)
        omega) (fun x y hxy hy => by
        by_cases z1 : x < i
        · by_cases z2 : y < i
          · simp only [if_pos z1, if_pos z2]; exact h2 _ _ hxy (by omega)
          · simp only [if_pos z1, if_neg z2]; exact h2 _ _ (by omega) (by omega)
        · simp only [if_neg z1, if_neg (show ¬ y < i by omega)]; exact h2 _ _ (by omega) (by omega))
      omega
    · have := pigeon m k f (fun i hi => by
        have := h1 i hi
        have : f i ≠ m := fun e => ex ⟨i, hi, e⟩
        omega) h2
      omega
/-- the free people's bits -/
def codeI (W : Web) (s : List Int) : Nat → Nat
  | 0 => 0
  | p + 1 => if stayA W p = none then 2 * codeI W s p + (vA s p).toNat else codeI W s p
def freeI (W : Web) : Nat → Nat
  | 0 => 0
  | p + 1 => if stayA W p = none then freeI W p + 1 else freeI W p
theorem code_lt {n : Nat} {W : Web} {s : List Int} (hs : Stand n s) : ∀ p, p ≤ n → codeI W s p < 2 ^ freeI W p
  | 0, _ => by simp [codeI, freeI]
  | p + 1, hp => by
    have ih := code_lt (W := W) hs p (by omega)
    unfold codeI freeI
    have := hs.at (p := p) (by omega)
    split
    · rw [Nat.pow_succ]
      omega
    · exact ih
theorem code_inj {n : Nat} {W : Web} {a b : List Int} (ha : Stand n a) (hb : Stand n b) (ka : Kept n W a) (kb : Kept n W b) : ∀ p, p ≤ n → codeI W a p = codeI W b p → ∀ q, q < p → vA a q = vA b q
  | 0, _, _, q, hq => absurd hq (by omega)
  | p + 1, hp, e, q, hq => by
    have h1 := ha.at (p := p) (by omega)
    have h2 := hb.at (p := p) (by omega)
    unfold codeI at e
    cases es : stayA W p with
    | none =>
      rw [if_pos es, if_pos es] at e
      by_cases z : q = p
      · subst z
        omega
      · exact code_inj ha hb ka kb p (by omega) (by omega) q (by omega)
    | some x =>
      rw [if_neg (by rw [es]; simp), if_neg (by rw [es]; simp)] at e
      by_cases z : q = p
      · subst z
        rw [ka q (by omega) x es, kb q (by omega) x es]
      · exact code_inj ha hb ka kb p (by omega) e q (by omega)
theorem end_exists {n : Nat} {W : Web} (h : Shape n W) (sy : SymT n W.ties) (st : StayOk n W) {s : List Int} (hs : Stand n s ∧ fitsI W s = true) : ∃ T, T < 2 ^ freeI W n ∧ itI n W s T = itI n W s (T + 2) ∧ ∀ t, t < T → itI n W s t ≠ itI n W s (t + 2) := by
  have key : ∀ k, (∃ T, T < k ∧ itI n W s T = itI n W s (T + 2) ∧ ∀ t, t < T → itI n W s t ≠ itI n W s (t + 2)) ∨ ∀ t, t < k → itI n W s t ≠ itI n W s (t + 2) := by
    intro k
    induction k with
    | zero => exact .inr fun t ht => absurd ht (by omega)
    | succ k ih =>
      rcases ih with ⟨T, h1, h2⟩ | ih
      · exact .inl ⟨T, by omega, h2⟩
      · by_cases e : itI n W s k = itI n W s (k + 2)
        · exact .inl ⟨k, by omega, e, ih⟩
        · refine .inr fun t ht => ?_
          by_cases z : t = k
          · rw [z]; exact e
          · exact ih t (by omega)
  rcases key (2 ^ freeI W n) with h1 | ne
  · exact h1
  · have := pigeon (2 ^ freeI W n) (2 ^ freeI W n + 1) (fun t => codeI W (itI n W s t) n) (fun i _ => code_lt (itI_fits h st hs i).1 n (Nat.le_refl _)) (fun i j hij hj e => by
      refine it_inj h sy st hs ne hij (by omega) ?_
      apply List.ext_getElem?
      intro q
      have l1 := (itI_fits h st hs i).1.len
      have l2 := (itI_fits h st hs j).1.len
      by_cases hq : q < n
      · rw [vA_at (by omega), vA_at (s := itI n W s j) (by omega), code_inj (itI_fits h st hs i).1 (itI_fits h st hs j).1 (kept_of h (itI_fits h st hs i)) (kept_of h (itI_fits h st hs j)) n (Nat.le_refl _) e q hq]
      · rw [List.getElem?_eq_none (by omega), List.getElem?_eq_none (by omega)])
    omega
theorem free_eq {W : Web} : ∀ {p : Nat}, p ≤ W.stays.length → freeI W p = (W.stays.take p).countP fun o => decide (o = none)
  | 0, _ => rfl
  | p + 1, hp => by
    rw [freeI, free_eq (p := p) (by omega), List.take_succ, stayA_at (W := W) (p := p) (by omega), List.countP_append]
    by_cases e : stayA W p = none
    · simp [e]
    · simp [e]
theorem en_drop {n : Nat} {W : Web} (h : Shape n W) (sy : SymT n W.ties) (st : StayOk n W) {s : List Int} (hs : Stand n s ∧ fitsI W s = true) {T : Nat} (ne : ∀ t, t < T → itI n W s t ≠ itI n W s (t + 2)) : ∀ t, t ≤ T → enI n W s t + t ≤ enI n W s 0
  | 0, _ => by simp
  | t + 1, ht => by
    have := en_drop h sy st hs ne t (by omega)
    have := en_lt h sy st hs (ne t (by omega))
    omega
theorem unl_len (a c : List Int) : ∀ n : Nat, ((((List.range n).filterMap fun i => if vA a i = vA c i then none else some i).length : Nat) : Int) = unl a c n
  | 0 => rfl
  | n + 1 => by
    have ih := unl_len a c n
    unfold unl at ih ⊢
    rw [List.range_succ, List.filterMap_append, List.length_append, sumR, ← ih]
    by_cases e : vA a n = vA c n
    · simp [e]
    · simp [e]
def enL (n : Nat) (W : Web) (s : List Int) (k : Nat) : List Int := (List.range k).map (enI n W s)
theorem enL_at {n : Nat} {W : Web} {s : List Int} {k t : Nat} (h : t < k) : (enL n W s k)[t]? = some (enI n W s t) := by
  unfold enL
  rw [List.getElem?_map, List.getElem?_range h]
  rfl
theorem goI_take {n : Nat} {W : Web} {s : List Int} (k : Nat) : ((goI n W s (k + 1)).map cStand.d).take (k + 1) = (goI n W s k).map cStand.d := by
  rw [goMap_succ, List.take_append_of_le_length (by rw [List.length_map, goI_len]; omega), List.take_of_length_le (by rw [List.length_map, goI_len]; omega)]
theorem goI_mem {n : Nat} {W : Web} (h : Shape n W) (st : StayOk n W) {s : List Int} (hs : Stand n s ∧ fitsI W s = true) {k : Nat} : ∀ x ∈ goI n W s k, Stand n x ∧ fitsI W x = true := by
  intro x hx
  unfold goI at hx
  obtain ⟨t, _, rfl⟩ := List.mem_map.mp hx
  exact itI_fits h st hs t
end R
namespace R
open PySem PySem.Spec PyProof.Rows L2
/-! ### dicts of ints, step by step -/
section
variable {ρ : Rho} {h : PH} {mo mi mv : EM} {as : AM} {x y d v : D} {r : List (Int × Int)} {n : Nat} {i w : Int}
def ofPH (ρ : Rho) : Option PH → Out Fl
  | some h => .ok (.nx ρ) h
  | none => .stuck
@[simp] theorem ofPH_s : ofPH ρ (some h) = .ok (.nx ρ) h := (rfl)
def kDP3 (ρ : Rho) (v d y : D) (h : PH) : Out Fl := ofPH ρ (oDPut d y v h)
def kDP2 (mi : EM) (ρ : Rho) (v d : D) (h : PH) : Out Fl := (mi ρ h).bind (kDP3 ρ v d)
def kDP1 (mo mi : EM) (ρ : Rho) (v : D) (h : PH) : Out Fl := (mo ρ h).bind (kDP2 mi ρ v)
@[simp] theorem kDP3_s : kDP3 ρ v d y h = ofPH ρ (oDPut d y v h) := (rfl)
@[simp] theorem kDP2_s : kDP2 mi ρ v d h = (mi ρ h).bind (kDP3 ρ v d) := (rfl)
@[simp] theorem kDP1_s : kDP1 mo mi ρ v h = (mo ρ h).bind (kDP2 mi ρ v) := (rfl)
@[simp] theorem sDPutM_s : sDPutM mo mi mv ρ h = (mv ρ h).bind (kDP1 mo mi ρ) := by
  unfold sDPutM
  congr 1
@[simp] theorem eDct_s : eDct ρ h = .ok (.loc h.length) (h ++ [.dct []]) := (rfl)
def kvI (p : Int × Int) : Key × D := (Sum.inl p.1, D.int p.2)
def dctH (r : List (Int × Int)) : HB := .dct (r.map kvI)
def hasI (r : List (Int × Int)) (i : Int) : Bool := r.any fun p => decide (p.1 = i)
def lookI (r : List (Int × Int)) (i : Int) : Option Int := (r.find? fun p => decide (p.1 = i)).map (·.2)
theorem findK_I (i : Int) : ∀ r : List (Int × Int), findK (r.map kvI) (Sum.inl i) = (lookI r i).map D.int
  | [] => rfl
  | p :: r => by
    have ih := findK_I i r
    unfold findK lookI at ih ⊢
    rw [List.map_cons, List.find?_cons, List.find?_cons]
    by_cases e : p.1 = i
    · simp [kvI, e]
    · simp only [kvI, Sum.inl.injEq, e, decide_false] at ih ⊢
      exact ih
theorem look_has (i : Int) : ∀ r : List (Int × Int), (lookI r i).isSome = hasI r i
  | [] => rfl
  | p :: r => by
    have ih := look_has i r
    unfold lookI hasI at ih ⊢
    rw [List.find?_cons, List.any_cons]
    by_cases e : p.1 = i
    · simp [e]
    · simp only [e, decide_false, Bool.false_or] at ih ⊢
      exact ih
theorem oDIn_at {neg : Bool} (e : h[n]? = some (dctH r)) : oDIn neg (.int i) (.loc n) h = .ok (.bl (if neg then !hasI r i else hasI r i)) h := by
  simp only [oDIn, e, dctH, keyD, findK_I, Option.isSome_map, look_has]
theorem oDGet_at (e : h[n]? = some (dctH r)) (hf : lookI r i = some w) : oDGet (.loc n) (.int i) h = .ok (.int w) h := by
  simp only [oDGet, e, dctH, keyD, findK_I, hf, Option.map_some]
theorem any_kv : (r.map kvI).any (fun kv => decide (kv.1 = Sum.inl i)) = hasI r i := by
  unfold hasI
  rw [List.any_map]
  congr 1
  funext p
  simp [kvI]
theorem oDPut_new (e : h[n]? = some (dctH r)) (ha : hasI r i = false) (hz : r.length ≤ 1000) : oDPut (.loc n) (.int i) (.int w) h = some (h.set n (dctH (r ++ [(i, w)]))) := by
  have e2 : putD (r.map kvI) (Sum.inl i) (.int w) = (r ++ [(i, w)]).map kvI := by
    unfold putD
    rw [any_kv, ha]
    simp [kvI]
  simp only [oDPut, e, dctH, keyD, e2, List.length_map]
  rw [if_pos (by rw [line_eq]; omega)]
theorem optAll_keys : ∀ r : List (Int × Int), optAll intK ((r.map kvI).map (·.1)) = some (r.map (·.1))
  | [] => rfl
  | p :: r => by
    have ih := optAll_keys r
    simp only [List.map_cons, optAll, ih]
    rfl
theorem fSortD_at {fz : Bool} (e : h[n]? = some (dctH r)) (hl : r.length < 64) : fSortD fz [.loc n] h = mkL fz ((sortI (r.map (·.1))).map .int) h := by
  have q := optAll_keys r
  simp only [fSortD, e, dctH, q, List.length_map]
  rw [if_pos hl]
theorem eCallL_at {i : Nat} {c : Str → Option (List D → Res)} {x : Str} {m : List D → Res} (e : ρ[i]? = some (some (.gl x))) (ec : c x = some m) : eCallL i c as ρ h = (as ρ h).bind (runP m) := by
  simp only [eCallL, e, ofFn, ec]
end
@[simp] theorem snap_gl {h : PH} {i : Str} : snapF h 16 (.gl i) = some (.gl i) := rfl
/-! ### ties told one by one -/
abbrev Tri := Int × Int × Int
def dTri (t : Tri) : D := .tup [.int t.1, .int t.2.1, .int t.2.2]
def cTri : Cd Tri where
  d := dTri
  p := fun t => .tuple [.int t.1, .int t.2.1, .int t.2.2]
  n := 1
  hpd := fun h k x hk => by obtain ⟨j, rfl⟩ := pos_of hk; obtain ⟨i, rfl⟩ := pos_of (show 0 < j by omega); rfl
  heq := fun a b => by
    obtain ⟨a1, a2, a3⟩ := a
    obtain ⟨b1, b2, b3⟩ := b
    simp only [PyData.eqv, PyData.eqvAll, Bool.and_true, Prod.mk.injEq, Bool.decide_and, beq_dec]
  hsn := fun h k x hk => by obtain ⟨j, rfl⟩ := pos_of hk; obtain ⟨i, rfl⟩ := pos_of (show 0 < j by omega); rfl
  hrs := fun h k x hk => by obtain ⟨j, rfl⟩ := pos_of hk; obtain ⟨i, rfl⟩ := pos_of (show 0 < j by omega); rfl
  hnl := fun _ => rfl
theorem cTri_d (t : Tri) : cTri.d t = .tup [.int t.1, .int t.2.1, .int t.2.2] := rfl
@[simp] theorem res_lstT {h : PH} {xs : List Tri} : resF h 16 (.lst .own (xs.map cTri.d)) = some (.lst .own (xs.map cTri.d)) := res_of cTri (by decide)
@[simp] theorem snap_lstT {h : PH} {t : Tg} {xs : List Tri} : snapF h 16 (.lst t (xs.map cTri.d)) = some (.lst (borT t) (xs.map cTri.d)) := snap_of cTri (by decide)
@[simp] theorem res_lstY {h : PH} {xs : List (Option Int)} : resF h 16 (.lst .own (xs.map stayD)) = some (.lst .own (xs.map stayD)) := res_of cStay (by decide)
@[simp] theorem snap_lstY {h : PH} {t : Tg} {xs : List (Option Int)} : snapF h 16 (.lst t (xs.map stayD)) = some (.lst (borT t) (xs.map stayD)) := snap_of cStay (by decide)
@[simp] theorem snap_tri {h : PH} {t : Tri} : snapF h 16 (cTri.d t) = some (cTri.d t) := cTri.hsn h 16 t (by decide)
/-- a tie between two of n people -/
def triB (n : Nat) (t : Tri) : Prop := 0 ≤ t.1 ∧ t.1 < n ∧ 0 ≤ t.2.1 ∧ t.2.1 < n ∧ t.1 ≠ t.2.1 ∧ 1 ≤ t.2.2 ∧ t.2.2 ≤ 400
def triU (s t : Tri) : Prop := ¬ (s.1 = t.1 ∧ s.2.1 = t.2.1) ∧ ¬ (s.1 = t.2.1 ∧ s.2.1 = t.1)
structure TriOk (n : Nat) (T : List Tri) : Prop where
  bd : ∀ t ∈ T, triB n t
  un : T.Pairwise triU
abbrev Rows := List (List (Int × Int))
def stepT (R : Rows) (t : Tri) : Rows := addT R t.1.toNat t.2.1.toNat t.2.2
def rowsF (n : Nat) (T : List Tri) : Rows := T.foldl stepT (List.replicate n [])
/-- what a tie tells person p -/
def ctr (t : Tri) (p : Nat) : List (Int × Int) := if t.1 = p then [(t.2.1, t.2.2)] else if t.2.1 = p then [(t.1, t.2.2)] else []
def rowC (T : List Tri) (p : Nat) : List (Int × Int) := T.flatMap fun t => ctr t p
theorem stepT_at {n : Nat} {R : Rows} {t : Tri} (hl : R.length = n) (b : triB n t) (p : Nat) : (stepT R t).length = n ∧ (stepT R t)[p]?.getD [] = R[p]?.getD [] ++ ctr t p := by
  obtain ⟨b1, b2, b3, b4, b5, _, _⟩ := b
  refine ⟨by simp [stepT, addT, hl], ?_⟩
  unfold stepT
  rw [addT_at (by omega) (by omega) (by omega)]
  unfold ctr
  congr 1
  by_cases c1 : t.1 = p
  · rw [if_pos c1, if_pos (by omega), Int.toNat_of_nonneg b3]
  · rw [if_neg c1, if_neg (by omega)]
    by_cases c2 : t.2.1 = p
    · rw [if_pos c2, if_pos (by omega), Int.toNat_of_nonneg b1]
    · rw [if_neg c2, if_neg (by omega)]
theorem fold_at {n : Nat} : ∀ (T : List Tri) (R : Rows), R.length = n → (∀ t ∈ T, triB n t) → (T.foldl stepT R).length = n ∧ ∀ p, (T.foldl stepT R)[p]?.getD [] = R[p]?.getD [] ++ rowC T p
  | [], R, hl, _ => ⟨hl, fun p => by simp [rowC]⟩
  | t :: T, R, hl, hb => by
    have st := fun p => stepT_at hl (hb t List.mem_cons_self) p
    obtain ⟨e1, e2⟩ := fold_at T (stepT R t) (st 0).1 fun x hx => hb x (List.mem_cons_of_mem _ hx)
    refine ⟨e1, fun p => ?_⟩
    rw [List.foldl_cons, e2 p, (st p).2]
    simp [rowC]
theorem rowsF_at {n : Nat} {T : List Tri} (hb : ∀ t ∈ T, triB n t) : (rowsF n T).length = n ∧ ∀ p, (rowsF n T)[p]?.getD [] = rowC T p := by
  obtain ⟨a, b⟩ := fold_at (n := n) T (List.replicate n []) (by simp) hb
  refine ⟨a, fun p => ?_⟩
  rw [rowsF, b p]
  have : (List.replicate n ([] : List (Int × Int)))[p]?.getD [] = [] := by
    rw [List.getElem?_replicate]
    split <;> rfl
  rw [this, List.nil_append]
theorem fold_tie {n : Nat} : ∀ (T : List Tri) (R : Rows) (m : Nat), TieG n m R → (∀ t ∈ T, triB n t) → TieG n (m + T.length) (T.foldl stepT R)
  | [], R, m, g, _ => g
  | t :: T, R, m, g, hb => by
    obtain ⟨b1, b2, b3, b4, b5, b6, b7⟩ := hb t List.mem_cons_self
    have := fold_tie T (stepT R t) (m + 1) (g.add' (by omega) (by omega) (by omega) b6 b7) fun x hx => hb x (List.mem_cons_of_mem _ hx)
    rw [List.foldl_cons, List.length_cons, show m + (T.length + 1) = m + 1 + T.length by omega]
    exact this
theorem rowsF_tie {n : Nat} {T : List Tri} (hb : ∀ t ∈ T, triB n t) : TieG n T.length (rowsF n T) := by
  have := fold_tie T (List.replicate n []) 0 tieG_none hb
  rwa [Nat.zero_add] at this
theorem mem_rowC {T : List Tri} {p : Nat} {x : Int × Int} : x ∈ rowC T p ↔ ∃ t ∈ T, x ∈ ctr t p := by
  unfold rowC
  exact List.mem_flatMap
/-- no one stands twice in a row -/
theorem rowC_nodup {n : Nat} : ∀ {T : List Tri}, TriOk n T → ∀ p : Nat, ((rowC T p).map (·.1)).Nodup
  | [], _, p => by simp [rowC]
  | t :: T, k, p => by
    have ih := rowC_nodup (T := T) ⟨fun x hx => k.bd x (List.mem_cons_of_mem _ hx), (List.pairwise_cons.mp k.un).2⟩ p
    have un := (List.pairwise_cons.mp k.un).1
    have b := k.bd t List.mem_cons_self
    obtain ⟨b1, b2, b3, b4, b5, _, _⟩ := b
    have key : ∀ a : Int, (∀ x ∈ T, a ∈ (ctr x p).map (·.1) → False) → a ∉ (rowC T p).map (·.1) := fun a ha hm => by
      obtain ⟨x, hx, rfl⟩ := List.mem_map.mp hm
      obtain ⟨s, hs, hc⟩ := mem_rowC.mp hx
      exact ha s hs (List.mem_map.mpr ⟨x, hc, rfl⟩)
    have e : rowC (t :: T) p = ctr t p ++ rowC T p := by simp [rowC]
    rw [e, List.map_append]
    unfold ctr
    by_cases c1 : t.1 = p
    · rw [if_pos c1]
      refine List.nodup_cons.mpr ⟨key _ fun x hx hm => ?_, ih⟩
      have u := un x hx
      unfold triU at u
      unfold ctr at hm
      split at hm
      · simp at hm; omega
      · split at hm
        · simp at hm; omega
        · simp at hm
    · rw [if_neg c1]
      by_cases c2 : t.2.1 = p
      · rw [if_pos c2]
        refine List.nodup_cons.mpr ⟨key _ fun x hx hm => ?_, ih⟩
        have u := un x hx
        unfold triU at u
        unfold ctr at hm
        split at hm
        · simp at hm; omega
        · split at hm
          · simp at hm; omega
          · simp at hm
      · rw [if_neg c2]
        exact ih
/-- a row of n people's ties has fewer than n entries -/
theorem nodup_len {n : Nat} {l : List Int} (nd : l.Nodup) (hb : ∀ x ∈ l, 0 ≤ x ∧ x < n) : l.length ≤ n := by
  have := pigeon n l.length (fun i => (l[i]?.getD 0).toNat) (fun i hi => by
    have := hb l[i] (List.getElem_mem hi)
    simp only [List.getElem?_eq_getElem hi, Option.getD_some]
    omega) (fun i j hij hj => by
    have hi : i < l.length := by omega
    have h1 := hb l[i] (List.getElem_mem hi)
    have h2 := hb l[j] (List.getElem_mem hj)
    simp only [List.getElem?_eq_getElem hi, List.getElem?_eq_getElem hj, Option.getD_some]
    intro e
    have : l[i] = l[j] := by omega
    have := (List.getElem_inj nd).mp this
    omega)
  exact this
theorem rowC_bd {n : Nat} {T : List Tri} (hb : ∀ t ∈ T, triB n t) {p : Nat} : ∀ x ∈ rowC T p, 0 ≤ x.1 ∧ x.1 < n ∧ x.1 ≠ p ∧ 1 ≤ x.2 ∧ x.2 ≤ 400 := fun x hx => by
  obtain ⟨t, ht, hc⟩ := mem_rowC.mp hx
  obtain ⟨b1, b2, b3, b4, b5, b6, b7⟩ := hb t ht
  unfold ctr at hc
  split at hc
  · obtain rfl := List.mem_singleton.mp hc
    exact ⟨b3, b4, by simp only; omega, b6, b7⟩
  · split at hc
    · obtain rfl := List.mem_singleton.mp hc
      exact ⟨b1, b2, by assumption, b6, b7⟩
    · cases hc
theorem rowC_len {n : Nat} {T : List Tri} (k : TriOk n T) (p : Nat) : (rowC T p).length ≤ n := by
  have := nodup_len (n := n) (rowC_nodup k p) (fun x hx => by
    obtain ⟨y, hy, rfl⟩ := List.mem_map.mp hx
    have := rowC_bd k.bd y hy
    exact ⟨this.1, this.2.1⟩)
  simpa using this
/-- sorted keys with what they lead to are the sorted pairs -/
theorem look_self {r : List (Int × Int)} (nd : (r.map (·.1)).Nodup) : ∀ x ∈ r, lookI r x.1 = some x.2 := by
  induction r with
  | nil => intro x hx; cases hx
  | cons p r ih =>
    intro x hx
    obtain ⟨n1, n2⟩ := List.nodup_cons.mp nd
    unfold lookI
    rw [List.find?_cons]
    by_cases e : p.1 = x.1
    · rcases List.mem_cons.mp hx with rfl | hx
      · simp
      · exact absurd (List.mem_map.mpr ⟨x, hx, e.symm⟩) n1
    · rcases List.mem_cons.mp hx with rfl | hx
      · exact absurd rfl e
      · simp only [e, decide_false]
        exact ih n2 x hx
theorem sorted_row {r : List (Int × Int)} (nd : (r.map (·.1)).Nodup) : (sortI (r.map (·.1))).map (fun k => (k, (lookI r k).getD 0)) = sortP r := by
  have hp : (sortI (r.map (·.1))).Perm (r.map (·.1)) := List.mergeSort_perm _ _
  refine sortP_eq ?_ ?_
  · refine (hp.map _).trans ?_
    rw [List.map_map]
    have : r.map ((fun k => (k, (lookI r k).getD 0)) ∘ (·.1)) = r := by
      have : r.map ((fun k => (k, (lookI r k).getD 0)) ∘ (·.1)) = r.map id := List.map_congr_left fun x hx => by
        simp only [Function.comp_apply, look_self nd x hx, Option.getD_some, id_eq]
      rw [this, List.map_id]
    rw [this]
  · have s : (sortI (r.map (·.1))).Pairwise (· ≤ ·) := by
      have := List.pairwise_mergeSort (le := fun a b : Int => decide (a ≤ b)) (fun a b c h1 h2 => by simp at *; omega) (fun a b => by simp; omega) (r.map (·.1))
      exact this.imp fun h => by simpa using h
    have nd2 : (sortI (r.map (·.1))).Nodup := hp.nodup_iff.mpr nd
    rw [List.pairwise_map]
    have both := s.and nd2
    exact both.imp fun {a b} ⟨h1, h2⟩ => leP_iff.mpr (.inl (by simp only; omega))
/-- the web of ties told one by one -/
def webT (n : Nat) (T : List Tri) (bars : List Int) (stays : List (Option Int)) : Web := ⟨(rowsF n T).map sortP, bars, stays⟩
theorem webT_shape {n : Nat} {T : List Tri} {bars : List Int} {stays : List (Option Int)} (k : TriOk n T) (h30 : n ≤ 30) (hb : bars.length = n) (hs : stays.length = n) : Shape n (webT n T bars stays) := by
  obtain ⟨l, at'⟩ := rowsF_at k.bd
  refine ⟨by simp [webT, l], hb, hs, by omega, fun r hr => ?_⟩
  obtain ⟨r0, hr0, rfl⟩ := List.mem_map.mp hr
  obtain ⟨p, hp⟩ := List.getElem?_of_mem hr0
  have e : r0 = rowC T p := by rw [← at' p, hp]; rfl
  have pm := sortP_perm r0
  refine ⟨fun x hx => ?_, ?_⟩
  · have := rowC_bd k.bd x (by rw [← e]; exact pm.mem_iff.mp hx)
    exact ⟨this.1, this.2.1⟩
  · rw [pm.length_eq, e]
    have := rowC_len k p
    omega
theorem webT_row {n : Nat} {T : List Tri} {bars : List Int} {stays : List (Option Int)} (k : TriOk n T) {p : Nat} (hp : p < n) : rowA (webT n T bars stays) p = sortP (rowC T p) := by
  obtain ⟨l, at'⟩ := rowsF_at k.bd
  unfold rowA webT
  rw [List.getElem?_map, ← at' p]
  obtain ⟨r, hr⟩ : ∃ r, (rowsF n T)[p]? = some r := ⟨_, List.getElem?_eq_getElem (by omega)⟩
  rw [hr]
  rfl
theorem webT_sym {n : Nat} {T : List Tri} {bars : List Int} {stays : List (Option Int)} (k : TriOk n T) : SymT n (webT n T bars stays).ties := (rowsF_tie k.bd).sorted.sym
theorem webT_tie {n : Nat} {T : List Tri} {bars : List Int} {stays : List (Option Int)} (k : TriOk n T) : TieG n T.length (webT n T bars stays).ties := (rowsF_tie k.bd).sorted
/-- the heap of dicts under way -/
def hD (R : Rows) : PH := R.map dctH ++ [.lst (locs 0 R.length)]
theorem hD_at {R : Rows} {p : Nat} {r : List (Int × Int)} (e : R[p]? = some r) : (hD R)[p]? = some (dctH r) := by
  have hp := (List.getElem?_eq_some_iff.mp e).1
  unfold hD
  rw [List.getElem?_append_left (by simpa using hp), List.getElem?_map, e]
  rfl
theorem hD_l {R : Rows} {n : Nat} (hn : R.length = n) : (hD R)[n]? = some (.lst (locs 0 n)) := by
  unfold hD
  rw [List.getElem?_append_right (by simp [hn]), hn]
  simp [hn]
theorem hD_set {R : Rows} {p : Nat} {r : List (Int × Int)} (hp : p < R.length) : (hD R).set p (dctH r) = hD (R.set p r) := by
  unfold hD
  rw [List.set_append_left _ _ (by simpa using hp), List.map_set, List.length_set]
theorem fresh {n : Nat} {T : List Tri} {t : Tri} (u : ∀ s ∈ T, triU s t) : hasI (rowC T t.1.toNat) t.2.1 = false ∨ t.1 < 0 := by
  by_cases h0 : t.1 < 0
  · exact .inr h0
  refine .inl ?_
  unfold hasI
  rw [List.any_eq_false]
  intro x hx
  obtain ⟨s, hs, hc⟩ := mem_rowC.mp hx
  have q := u s hs
  unfold triU at q
  unfold ctr at hc
  split at hc
  · obtain rfl := List.mem_singleton.mp hc
    simp only [decide_eq_true_eq]
    omega
  · split at hc
    · obtain rfl := List.mem_singleton.mp hc
      simp only [decide_eq_true_eq]
      omega
    · cases hc
theorem fresh2 {n : Nat} {T : List Tri} {t : Tri} (u : ∀ s ∈ T, triU s t) : hasI (rowC T t.2.1.toNat) t.1 = false ∨ t.2.1 < 0 := by
  have := fresh (n := n) (T := T) (t := (t.2.1, t.1, t.2.2)) (fun s hs => by
    have q := u s hs
    unfold triU at q ⊢
    simp only
    exact ⟨fun z => q.2 z, fun z => q.1 z⟩)
  exact this
theorem take_u {T : List Tri} {i : Nat} {t : Tri} (un : T.Pairwise triU) (e : T[i]? = some t) : ∀ s ∈ T.take i, triU s t := by
  intro s hs
  obtain ⟨j, hj, rfl⟩ := List.mem_take_iff_getElem.mp hs
  obtain ⟨hi, rfl⟩ := List.getElem?_eq_some_iff.mp e
  exact List.pairwise_iff_getElem.mp un j i (by omega) hi (by omega)
theorem take_snoc {α : Type} {T : List α} {i : Nat} {t : α} (e : T[i]? = some t) : T.take (i + 1) = T.take i ++ [t] := by
  rw [List.take_succ, e]
  rfl
theorem rowsF_snoc {n : Nat} {T : List Tri} {t : Tri} : rowsF n (T ++ [t]) = stepT (rowsF n T) t := by
  unfold rowsF
  rw [List.foldl_append]
  rfl
theorem TriOk.take {n : Nat} {T : List Tri} (k : TriOk n T) (i : Nat) : TriOk n (T.take i) := ⟨fun t ht => k.bd t (List.mem_of_mem_take ht), k.un.sublist (List.take_sublist i T)⟩
theorem rows_at {n : Nat} {T : List Tri} (k : TriOk n T) {p : Nat} (hp : p < n) : (rowsF n T)[p]? = some (rowC T p) := by
  obtain ⟨l, at'⟩ := rowsF_at k.bd
  have e := List.getElem?_eq_getElem (l := rowsF n T) (i := p) (by omega)
  rw [e, ← at' p, e]
  rfl
theorem oMul_one {fz : Bool} {x : D} {n : Nat} {h : PH} (h1 : 1 ≤ n) (h2 : n ≤ 1000) : oMul fz (.tup [x]) (.int n) h = .ok (.tup (List.replicate n x)) h := by
  unfold oMul
  simp only
  by_cases e : (n : Int) = 1
  · have : n = 1 := by omega
    subst this
    rw [if_pos e]
    rfl
  · rw [if_neg e, if_pos (by simp; omega)]
    simp
theorem runT_at {m : List D → Res} {ds es xs : List D} {h : PH} (e1 : optAll (snapF h 16) ds = some es) (e2 : m es = .ok (.lst .own xs)) (nl : noLsts xs = true) : runT m ds h = .ok (.loc h.length) (h ++ [.lst xs]) := by
  unfold runT
  rw [e1]
  simp only
  rw [e2]
  simp only [nl, if_true]
theorem oMul_lst1 {fz : Bool} {x : D} {n : Nat} {h : PH} (h2 : n ≤ 1000) : oMul fz (.lst .own [x]) (.int n) h = mkL fz (List.replicate n x) h := by
  unfold oMul
  simp only [getLx]
  rw [if_pos (by simp [line_eq]; omega)]
  simp
theorem resk_loc {α : Type} [DecidableEq α] (c : Cd α) {k n : Nat} {h : PH} {xs : List α} (hn : c.n < k) (e : h[n]? = some (.lst (xs.map c.d))) : resF h (k + 1) (.loc n) = some (.lst .own (xs.map c.d)) := by
  simp only [resF, e]
  rw [optAll_of c.d c.d xs fun y => c.hrs h k y hn]
  rfl
theorem snapk_of {α : Type} [DecidableEq α] (c : Cd α) {k : Nat} (hn : c.n < k + 1) {h : PH} {t : Tg} {xs : List α} : snapF h (k + 2) (.lst t (xs.map c.d)) = some (.lst (borT t) (xs.map c.d)) := by
  have e := optAll_of (f := snapF h (k + 1)) c.d c.d xs fun y => c.hsn h (k + 1) y hn
  cases t <;> simp only [snapF, e] <;> rfl
theorem snapk_loc {α : Type} [DecidableEq α] (c : Cd α) {k n : Nat} {h : PH} {xs : List α} (hn : c.n < k) (e : h[n]? = some (.lst (xs.map c.d))) : snapF h (k + 1) (.loc n) = some (.lst .bor (xs.map c.d)) := by
  simp only [snapF, e]
  rw [optAll_of c.d c.d xs fun y => c.hsn h k y hn]
  rfl
theorem vA_set_same {s : List Int} {p : Nat} {x : Int} (h : p < s.length) : vA (s.set p x) p = x := by unfold vA; simp [h]
theorem vA_set_ne {s : List Int} {p q : Nat} {x : Int} (c : p ≠ q) : vA (s.set p x) q = vA s q := by unfold vA; rw [List.getElem?_set_ne c]
theorem cut_set {s : List Int} {p : Nat} (hp : p < s.length) (x : Int) : s.take p ++ [x] ++ s.drop (p + 1) = s.set p x := by
  rw [List.set_eq_take_append_cons_drop, if_pos hp]
  simp
theorem cut_from {α : Type} (xs : List α) (m : Nat) : cutG xs (some (m : Int)) none = xs.drop m := by
  have e0 : HT.sIx xs.length xs.length none = xs.length := rfl
  unfold cutG
  rw [e0]
  have : HT.sIx xs.length 0 (some (m : Int)) = min m xs.length := by
    unfold HT.sIx
    simp
    all_goals omega
  rw [this]
  by_cases h : m ≤ xs.length
  · rw [Nat.min_eq_left h, List.take_of_length_le (by simp)]
  · rw [Nat.min_eq_right (by omega), List.drop_of_length_le (Nat.le_refl _), List.drop_of_length_le (by omega)]
    simp
end R
namespace R
open PySem PySem.Spec PyProof.Rows L2
theorem fnP6_s {a1 a2 a3 a4 a5 a6 : D} {n : Nat} {body : SM} : fnP 6 n body [a1, a2, a3, a4, a5, a6] = endP (body (some a1 :: some a2 :: some a3 :: some a4 :: some a5 :: some a6 :: List.replicate (n - 6) none) []) := fnP_s rfl
theorem fnM6_s {a1 a2 a3 a4 a5 a6 : D} {n : Nat} {body : SM} {h : PH} : fnM 6 n body [a1, a2, a3, a4, a5, a6] h = endM (body (some a1 :: some a2 :: some a3 :: some a4 :: some a5 :: some a6 :: List.replicate (n - 6) none) h) := fnM_s rfl
theorem fnP7_s {a1 a2 a3 a4 a5 a6 a7 : D} {n : Nat} {body : SM} : fnP 7 n body [a1, a2, a3, a4, a5, a6, a7] = endP (body (some a1 :: some a2 :: some a3 :: some a4 :: some a5 :: some a6 :: some a7 :: List.replicate (n - 7) none) []) := fnP_s rfl
theorem fnM7_s {a1 a2 a3 a4 a5 a6 a7 : D} {n : Nat} {body : SM} {h : PH} : fnM 7 n body [a1, a2, a3, a4, a5, a6, a7] h = endM (body (some a1 :: some a2 :: some a3 :: some a4 :: some a5 :: some a6 :: some a7 :: List.replicate (n - 7) none) h) := fnM_s rfl
theorem fnP8_s {a1 a2 a3 a4 a5 a6 a7 a8 : D} {n : Nat} {body : SM} : fnP 8 n body [a1, a2, a3, a4, a5, a6, a7, a8] = endP (body (some a1 :: some a2 :: some a3 :: some a4 :: some a5 :: some a6 :: some a7 :: some a8 :: List.replicate (n - 8) none) []) := fnP_s rfl
theorem fnM8_s {a1 a2 a3 a4 a5 a6 a7 a8 : D} {n : Nat} {body : SM} {h : PH} : fnM 8 n body [a1, a2, a3, a4, a5, a6, a7, a8] h = endM (body (some a1 :: some a2 :: some a3 :: some a4 :: some a5 :: some a6 :: some a7 :: some a8 :: List.replicate (n - 8) none) h) := fnM_s rfl
/-! ### list objects, without conditions -/
section
variable {h H S : PH} {n l : Nat} {d x y : D} {ds : List D}
def isLO : Option HB → Bool
  | some (.lst _) => true
  | _ => false
@[simp] theorem isLO_l : isLO (some (.lst ds)) = true := (rfl)
theorem tyM_loc : tyM .lst h (.loc n) = isLO h[n]? := by
  unfold tyM isLO
  simp only [getL]
  all_goals (cases h[n]? with
  | none => rfl
  | some b => cases b <;> rfl)
def kApO (n : Nat) (y : D) (h : PH) : Option HB → Out D
  | some (.lst ds) => if ds.length < sizeLine then .ok .non (h.set n (.lst (ds ++ [y]))) else .stuck
  | _ => .stuck
@[simp] theorem kApO_l : kApO n y h (some (.lst ds)) = if ds.length < sizeLine then .ok .non (h.set n (.lst (ds ++ [y]))) else .stuck := (rfl)
theorem fAppend_loc : fAppend (.loc n) [y] h = kApO n y h h[n]? := by
  unfold fAppend onL kApO
  simp only
  all_goals (cases h[n]? with
  | none => rfl
  | some b => cases b with
    | lst ds =>
      simp only
      by_cases z : ds.length < sizeLine
      · rw [if_pos z, if_pos z]
      · rw [if_neg z, if_neg z]
    | dct k => rfl
    | ins c fs => rfl)
def kClO (n : Nat) (h : PH) : Option HB → Out D
  | some (.lst ds) => .ok .non (h.set n (.lst []))
  | _ => .stuck
@[simp] theorem kClO_l : kClO n h (some (.lst ds)) = .ok .non (h.set n (.lst [])) := (rfl)
theorem fClear_loc : fClear (.loc n) [] h = kClO n h h[n]? := by
  unfold fClear onL kClO
  simp only
  all_goals (cases h[n]? with
  | none => rfl
  | some b => cases b <;> rfl)
def kReO (n : Nat) (h : PH) : Option HB → Out D
  | some (.lst ds) => .ok .non (h.set n (.lst ds.reverse))
  | _ => .stuck
@[simp] theorem kReO_l : kReO n h (some (.lst ds)) = .ok .non (h.set n (.lst ds.reverse)) := (rfl)
theorem fReverse_loc : fReverse (.loc n) [] h = kReO n h h[n]? := by
  unfold fReverse onL kReO
  simp only
  all_goals (cases h[n]? with
  | none => rfl
  | some b => cases b <;> rfl)
def kPuO (n : Nat) (i : Int) (d : D) (h : PH) : Option HB → Option PH
  | some (.lst ds) => (ixN ds.length i).map fun j => h.set n (.lst (ds.set j d))
  | _ => none
@[simp] theorem kPuO_l {i : Int} : kPuO n i d h (some (.lst ds)) = (ixN ds.length i).map fun j => h.set n (.lst (ds.set j d)) := (rfl)
theorem putL_loc {i : Int} : putL (.loc n) (.int i) d h = kPuO n i d h h[n]? := by
  unfold putL kPuO
  simp only
  all_goals (cases h[n]? with
  | none => rfl
  | some b => cases b <;> rfl)
def kItO (n : Nat) (h : PH) : Option HB → Out Itm
  | some (.lst ds) => .ok (ds, isLst n ds) h
  | _ => .stuck
@[simp] theorem kItO_l : kItO n h (some (.lst ds)) = .ok (ds, isLst n ds) h := (rfl)
theorem itS_locO : itS (.loc n) h = kItO n h h[n]? := by
  unfold itS itL kItO
  simp only
  all_goals (cases h[n]? with
  | none => rfl
  | some b => cases b <;> rfl)
theorem fLen_locO : fLen [.loc n] h = (match h[n]? with | some (.lst ds) => .ok (.int ds.length) h | some (.dct k) => .ok (.int k.length) h | _ => .stuck) := by
  unfold fLen
  simp only
  all_goals (cases h[n]? with
  | none => rfl
  | some b => cases b <;> rfl)
def snO (h : PH) (k : Nat) : Option HB → Option D
  | some (.lst ds) => (optAll (snapF h k) ds).map (.lst .bor)
  | _ => none
@[simp] theorem snO_l {k : Nat} : snO h k (some (.lst ds)) = (optAll (snapF h k) ds).map (.lst .bor) := (rfl)
theorem snap16_loc : snapF h 16 (.loc n) = snO h 15 h[n]? := (rfl)
theorem snap15_loc : snapF h 15 (.loc n) = snO h 14 h[n]? := (rfl)
/-- pieces behind a heap -/
theorem app_i (hl : H.length = l) (i : Nat) : (H ++ S)[l + i]? = S[i]? := by
  rw [List.getElem?_append_right (by omega), hl, Nat.add_sub_cancel_left]
theorem app_i0 (hl : H.length = l) : (H ++ S)[l]? = S[0]? := app_i hl 0
theorem app_s {z : HB} (hl : H.length = l) (i : Nat) : (H ++ S).set (l + i) z = H ++ S.set i z := by
  rw [List.set_append_right _ _ (by omega), hl, Nat.add_sub_cancel_left]
theorem app_s0 {z : HB} (hl : H.length = l) : (H ++ S).set l z = H ++ S.set 0 z := app_s hl 0
theorem optAll_snk {α : Type} [DecidableEq α] (c : Cd α) {k : Nat} (hn : c.n < k) {xs : List α} : optAll (snapF h k) (xs.map c.d) = some (xs.map c.d) := optAll_of c.d c.d xs fun y => c.hsn h k y hn
theorem optAll_pdk {α : Type} [DecidableEq α] (c : Cd α) {k : Nat} (hn : c.n < k) {xs : List α} : optAll (pdF h k) (xs.map c.d) = some (xs.map c.p) := optAll_of c.d c.p xs fun y => c.hpd h k y hn
def pdO (h : PH) (k : Nat) : Option HB → Option PyData
  | some (.lst ds) => (optAll (pdF h k) ds).map .list
  | _ => none
@[simp] theorem pdO_l {k : Nat} : pdO h k (some (.lst ds)) = (optAll (pdF h k) ds).map .list := (rfl)
theorem pd64_loc : pdF h 64 (.loc n) = pdO h 63 h[n]? := (rfl)
theorem pd63_loc : pdF h 63 (.loc n) = pdO h 62 h[n]? := (rfl)
theorem pd64_lst {t : Tg} : pdF h 64 (.lst t ds) = (optAll (pdF h 63) ds).map .list := (rfl)
theorem pd63_lst {t : Tg} : pdF h 63 (.lst t ds) = (optAll (pdF h 62) ds).map .list := (rfl)
theorem pd64_tup : pdF h 64 (.tup ds) = (optAll (pdF h 63) ds).map .tuple := (rfl)
theorem pd63_tup : pdF h 63 (.tup ds) = (optAll (pdF h 62) ds).map .tuple := (rfl)
theorem oNe_pd {p q : PyData} (e1 : pdF h 64 d = some p) (e2 : pdF h 64 x = some q) : oNe d x h = .ok (.bl (!PyData.eqv p q)) h := by simp only [oNe, e1, e2]
theorem oEq_pd {p q : PyData} (e1 : pdF h 64 d = some p) (e2 : pdF h 64 x = some q) : oEq d x h = .ok (.bl (PyData.eqv p q)) h := by simp only [oEq, e1, e2]
theorem eqv_list {α : Type} [DecidableEq α] (c : Cd α) {xs ys : List α} : PyData.eqv (.list (xs.map c.p)) (.list (ys.map c.p)) = decide (xs = ys) := by rw [PyData.eqv]; exact eqvAll_of c.heq xs ys
theorem eqv_l3 {a b c a' b' c' : PyData} : PyData.eqv (.list [a, b, c]) (.list [a', b', c']) = (PyData.eqv a a' && (PyData.eqv b b' && PyData.eqv c c')) := by simp [PyData.eqv, PyData.eqvAll]
end
end R
namespace R
open PySem PySem.Spec PyProof.Rows L2
/-! ### more ones never mean fewer -/
def leS (n : Nat) (a b : List Int) : Prop := ∀ p, p < n → vA a p ≤ vA b p
theorem leS.refl {n : Nat} {a : List Int} : leS n a a := fun p _ => Int.le_refl _
theorem leS.trans {n : Nat} {a b c : List Int} (h : leS n a b) (g : leS n b c) : leS n a c := fun p hp => Int.le_trans (h p hp) (g p hp)
def moreSt (x y : Option Int) : Prop := y = some 1 ∨ x = some 0 ∨ (x = none ∧ y = none)
theorem moreSt.refl {x : Option Int} (h : iStay x) : moreSt x x := by
  rcases h with e | e | e <;> rw [e]
  · exact .inr (.inr ⟨rfl, rfl⟩)
  · exact .inr (.inl rfl)
  · exact .inl rfl
structure MoreW (n : Nat) (W V : Web) : Prop where
  tie : ∀ p, p < n → ∀ f g : Nat → Int, (∀ q, q < n → 0 ≤ f q ∧ f q ≤ g q) → rowS f (rowA W p) ≤ rowS g (rowA V p)
  bar : ∀ p, p < n → barA V p ≤ barA W p
  stay : ∀ p, p < n → moreSt (stayA W p) (stayA V p)
/-- weights are not below nought -/
def PosT (n : Nat) (W : Web) : Prop := ∀ p, p < n → ∀ x ∈ rowA W p, 0 ≤ x.1 ∧ x.1 < n ∧ 0 ≤ x.2
theorem row_mono {n : Nat} {W : Web} (h : PosT n W) {p : Nat} (hp : p < n) {f g : Nat → Int} (fg : ∀ q, q < n → 0 ≤ f q ∧ f q ≤ g q) : rowS f (rowA W p) ≤ rowS g (rowA W p) := by
  refine rowS_le fun x hx => ?_
  obtain ⟨h1, h2, h3⟩ := h p hp x hx
  exact Int.mul_le_mul_of_nonneg_left (fg x.1.toNat (by omega)).2 h3
theorem MoreW.refl {n : Nat} {W : Web} (h : PosT n W) (st : StayOk n W) : MoreW n W W := ⟨fun p hp f g fg => row_mono h hp fg, fun p _ => Int.le_refl _, fun p hp => moreSt.refl (st p hp)⟩
theorem Stand.bits {n : Nat} {s : List Int} (h : Stand n s) {p : Nat} (hp : p < n) : 0 ≤ vA s p ∧ vA s p ≤ 1 := by
  rcases h.at hp with e | e <;> omega
theorem turned_mono {n : Nat} {W V : Web} (m : MoreW n W V) (sw : StayOk n W) (sv : StayOk n V) {a b : List Int} (ha : Stand n a) (hb : Stand n b) (h : leS n a b) {p : Nat} (hp : p < n) : turnedI W a p ≤ turnedI V b p := by
  have t := m.tie p hp (vA a) (vA b) fun q hq => ⟨(ha.bits hq).1, h q hq⟩
  have br := m.bar p hp
  have st := m.stay p hp
  have a1 := ha.bits hp
  have b1 := hb.bits hp
  have le := h p hp
  unfold turnedI
  rcases st with e | e | ⟨e1, e2⟩
  · rw [e]
    rcases sw p hp with e | e | e <;> rw [e] <;> simp only
    · split
      · omega
      · split <;> omega
    · omega
    · omega
  · rw [e]
    rcases sv p hp with e | e | e <;> rw [e] <;> simp only
    · split
      · omega
      · split <;> omega
    · omega
    · omega
  · rw [e1, e2]
    simp only
    split
    · split
      · omega
      · split <;> omega
    · split
      · split
        · omega
        · split <;> omega
      · split
        · omega
        · split <;> omega
theorem turn_mono {n : Nat} {W V : Web} (m : MoreW n W V) (sw : StayOk n W) (sv : StayOk n V) {a b : List Int} (ha : Stand n a) (hb : Stand n b) (h : leS n a b) : leS n (turnI n W a) (turnI n V b) := fun p hp => by
  rw [turnI_at hp, turnI_at hp]
  exact turned_mono m sw sv ha hb h hp
theorem it_mono {n : Nat} {W V : Web} (m : MoreW n W V) (shW : Shape n W) (shV : Shape n V) (sw : StayOk n W) (sv : StayOk n V) {a b : List Int} (ha : Stand n a ∧ fitsI W a = true) (hb : Stand n b ∧ fitsI V b = true) (h : leS n a b) : ∀ t, leS n (itI n W a t) (itI n V b t)
  | 0 => h
  | t + 1 => turn_mono m sw sv (itI_fits shW sw ha t).1 (itI_fits shV sv hb t).1 (it_mono m shW shV sw sv ha hb h t)
def belowI (a b : List Int) : Bool := (a.zip b).all fun p => decide (p.1 ≤ p.2)
theorem belowI_iff {n : Nat} {a b : List Int} (ha : a.length = n) (hb : b.length = n) : belowI a b = true ↔ leS n a b := by
  unfold belowI
  rw [List.all_eq_true]
  constructor
  · intro h p hp
    have e : (a.zip b)[p]? = some (vA a p, vA b p) := by
      rw [List.getElem?_zip_eq_some]
      exact ⟨vA_at (by omega), vA_at (by omega)⟩
    have := h _ (List.mem_of_getElem? e)
    simpa using this
  · intro h x hx
    obtain ⟨p, hp⟩ := List.getElem?_of_mem hx
    rw [List.getElem?_zip_eq_some] at hp
    have l := (List.getElem?_eq_some_iff.mp hp.1).1
    have := h p (by omega)
    unfold vA at this
    rw [hp.1, hp.2] at this
    simpa using this
theorem webT_pos {n : Nat} {T : List Tri} {bars : List Int} {stays : List (Option Int)} (k : TriOk n T) : PosT n (webT n T bars stays) := fun p hp x hx => by
  rw [webT_row k hp] at hx
  have := rowC_bd k.bd x ((sortP_perm _).mem_iff.mp hx)
  exact ⟨this.1, this.2.1, by omega⟩
@[simp] theorem oEq_stay_int {h : PH} {i : Int} {o : Option Int} : oEq (stayD o) (.int i) h = .ok (.bl (decide (o = some i))) h := by
  cases o <;> simp [oEq, stayD, PyData.eqv, beq_dec]
@[simp] theorem oNe_stay_int {h : PH} {i : Int} {o : Option Int} : oNe (stayD o) (.int i) h = .ok (.bl (!decide (o = some i))) h := by
  cases o <;> simp [oNe, stayD, PyData.eqv, beq_dec]
/-! ### one by one -/
def stepI (W : Web) (s : List Int) (p : Nat) : List Int := s.set p (turnedI W s p)
def runI (W : Web) (s : List Int) (o : List Nat) : List Int := o.foldl (stepI W) s
def chO (W : Web) (k : Nat) (s : List Int) (p : Nat) : List Tri := if turnedI W s p = vA s p then [] else [((k : Int), (p : Int), turnedI W s p)]
def chI (W : Web) : Nat → List Int → List Nat → List Tri
  | _, _, [] => []
  | k, s, p :: r => chO W k s p ++ chI W (k + 1) (stepI W s p) r
theorem runI_snoc {W : Web} {s : List Int} {o : List Nat} {p : Nat} : runI W s (o ++ [p]) = stepI W (runI W s o) p := by
  unfold runI
  rw [List.foldl_append]
  rfl
theorem chI_snoc {W : Web} {p : Nat} : ∀ {o : List Nat} {k : Nat} {s : List Int}, chI W k s (o ++ [p]) = chI W k s o ++ chO W (k + o.length) (runI W s o) p
  | [], k, s => by simp [chI, runI]
  | q :: o, k, s => by
    show chO W k s q ++ chI W (k + 1) (stepI W s q) (o ++ [p]) = chO W k s q ++ chI W (k + 1) (stepI W s q) o ++ _
    rw [chI_snoc, List.append_assoc, List.length_cons, show k + 1 + o.length = k + (o.length + 1) by omega]
    rfl
theorem chI_len {W : Web} : ∀ {o : List Nat} {k : Nat} {s : List Int}, (chI W k s o).length ≤ o.length
  | [], _, _ => Nat.le_refl _
  | q :: o, k, s => by
    have := chI_len (W := W) (o := o) (k := k + 1) (s := stepI W s q)
    have h2 : (chO W k s q).length ≤ 1 := by unfold chO; split <;> simp
    show (chO W k s q ++ chI W (k + 1) (stepI W s q) o).length ≤ _
    rw [List.length_append, List.length_cons]
    omega
theorem turned_held {n : Nat} {W : Web} (h : Shape n W) (st : StayOk n W) {s : List Int} (hs : Stand n s) {p : Nat} (hp : p < n) : heldP (turnedI W s p) (stayA W p) := by
  have v := hs.at hp
  unfold turnedI
  rcases st p hp with e | e | e <;> rw [e]
  · simp only
    refine ⟨?_, .inl rfl⟩
    split
    · exact v
    · split
      · exact .inr rfl
      · exact .inl rfl
  · exact ⟨.inl rfl, .inr rfl⟩
  · exact ⟨.inr rfl, .inr rfl⟩
theorem step_fits {n : Nat} {W : Web} (h : Shape n W) (st : StayOk n W) {s : List Int} (hs : Stand n s ∧ fitsI W s = true) {p : Nat} (hp : p < n) : Stand n (stepI W s p) ∧ fitsI W (stepI W s p) = true := by
  refine fits_of h (by simp [stepI, hs.1.len]) fun q hq => ?_
  unfold stepI
  by_cases c : p = q
  · subst c
    rw [vA_set_same (by rw [hs.1.len]; exact hp)]
    exact turned_held h st hs.1 hp
  · rw [vA_set_ne c]
    have kq := kept_of h hs q hq
    refine ⟨hs.1.at hq, ?_⟩
    cases es : stayA W q with
    | none => exact .inl rfl
    | some x => rw [kq x es]; exact .inr rfl
theorem run_fits {n : Nat} {W : Web} (h : Shape n W) (st : StayOk n W) : ∀ {o : List Nat} {s : List Int}, Stand n s ∧ fitsI W s = true → (∀ p ∈ o, p < n) → Stand n (runI W s o) ∧ fitsI W (runI W s o) = true
  | [], _, hs, _ => hs
  | p :: o, s, hs, ho => run_fits (o := o) h st (step_fits h st hs (ho p List.mem_cons_self)) fun q hq => ho q (List.mem_cons_of_mem _ hq)
theorem step_same {n : Nat} {W : Web} {s : List Int} (hs : s.length = n) {p : Nat} (hp : p < n) (e : turnedI W s p = vA s p) : stepI W s p = s := by
  unfold stepI
  rw [e]
  refine List.ext_getElem? fun q => ?_
  by_cases c : p = q
  · subst c
    rw [List.getElem?_set]
    simp only [if_true]
    rw [if_pos (by omega), vA_at (by omega)]
  · rw [List.getElem?_set_ne c]
/-- what a free or a staying person of a fitting stand turns to -/
theorem turned_kept {n : Nat} {W : Web} (h : Shape n W) {s : List Int} (hs : Stand n s ∧ fitsI W s = true) {p : Nat} (hp : p < n) : turnedI W s p = if stayA W p = none ∧ ¬ 2 * rowS (vA s) (rowA W p) = barA W p then (if barA W p < 2 * rowS (vA s) (rowA W p) then 1 else 0) else vA s p := by
  have kp := kept_of h hs p hp
  unfold turnedI
  cases es : stayA W p with
  | none =>
    simp only [true_and]
    by_cases c : 2 * rowS (vA s) (rowA W p) = barA W p
    · rw [if_pos c, if_neg (fun z => z c)]
    · rw [if_neg c, if_pos c]
  | some x =>
    simp only
    rw [if_neg (by rintro ⟨z, _⟩; cases z), kp x es]
def natD (p : Nat) : D := .int p
theorem enumD_nat {o : List Nat} {i : Nat} {d : D} (e : (enumD (o.map natD))[i]? = some d) : ∃ p, o[i]? = some p ∧ d = .tup [.int i, .int p] := by
  unfold enumD at e
  rw [List.getElem?_map, List.getElem?_zipIdx, List.getElem?_map] at e
  cases eo : o[i]? with
  | none => rw [eo] at e; cases e
  | some p =>
    rw [eo] at e
    simp only [Option.map_some, Nat.zero_add, Option.some.injEq] at e
    exact ⟨p, rfl, e.symm⟩
theorem enumD_len {xs : List D} : (enumD xs).length = xs.length := by simp [enumD]
theorem natD_map (o : List Nat) : o.map natD = (o.map fun p : Nat => (p : Int)).map D.int := by rw [List.map_map]; rfl
end R
namespace R
open PySem PySem.Spec PyProof.Rows L2
/-! ### the weight of a stand falls, one by one -/
theorem rowS_mulL (f : Nat → Int) (x : Int) (r : List (Int × Int)) : x * rowS f r = rowS (fun q => f q * x) r := by rw [rowS_mul, Int.mul_comm]
theorem rowS_add (f g : Nat → Int) : ∀ r : List (Int × Int), rowS (fun q => f q + g q) r = rowS f r + rowS g r
  | [] => rfl
  | x :: r => by
    have ih := rowS_add f g r
    unfold rowS at ih ⊢
    simp only [List.map_cons, List.sum_cons, Int.mul_add] at ih ⊢
    omega
theorem rowS_congr {f g : Nat → Int} : ∀ {r : List (Int × Int)}, (∀ x ∈ r, f x.1.toNat = g x.1.toNat) → rowS f r = rowS g r
  | [], _ => rfl
  | x :: r, h => by
    have ih := rowS_congr (r := r) fun y hy => h y (List.mem_cons_of_mem _ hy)
    unfold rowS at ih ⊢
    rw [List.map_cons, List.sum_cons, List.map_cons, List.sum_cons, ih, h x List.mem_cons_self]
theorem rowS_zero : ∀ r : List (Int × Int), rowS (fun _ => 0) r = 0
  | [] => rfl
  | x :: r => by
    have ih := rowS_zero r
    unfold rowS at ih ⊢
    rw [List.map_cons, List.sum_cons, ih]
    simp
def weT (W : Web) (s : List Int) (p : Nat) : Int := if vA s p = 1 then barA W p - rowS (vA s) (rowA W p) else 0
def weI (n : Nat) (W : Web) (s : List Int) : Int := sumR (weT W s) n
def indI (p q : Nat) : Int := if q = p then 1 else 0
theorem tieS_add {T : List (List (Int × Int))} {f g : Nat → Nat → Int} {n : Nat} : tieS T (fun q p => f q p + g q p) n = tieS T f n + tieS T g n := by
  unfold tieS
  rw [← sumR_add]
  exact sumR_congr fun p _ => rowS_add _ _ _
theorem tieS_mul {T : List (List (Int × Int))} {f : Nat → Nat → Int} {n : Nat} (c : Int) : tieS T (fun q p => f q p * c) n = tieS T f n * c := by
  unfold tieS
  rw [Int.mul_comm, ← sumR_mul]
  refine sumR_congr fun p _ => ?_
  rw [rowS_mul, Int.mul_comm]
theorem sumR_ind {f : Nat → Int} {p n : Nat} (hp : p < n) : sumR (fun q => f q * indI p q) n = f p := by
  have := sumR_set (fun _ => 0) p (f p) hp
  rw [sumR_zero] at this
  rw [← Int.zero_add (f p), ← this]
  refine sumR_congr fun q _ => ?_
  unfold indI
  by_cases c : q = p
  · rw [if_pos c, if_pos c, c]; omega
  · rw [if_neg c, if_neg c]; omega
def wbI (n : Nat) (W : Web) (f : Nat → Int) : Int := sumR (fun q => f q * barA W q) n - tieS W.ties (fun q p => f q * f p) n
theorem we_wb {n : Nat} {W : Web} {s : List Int} (hs : Stand n s) : weI n W s = wbI n W (vA s) := by
  have e : weI n W s = sumR (fun q => vA s q * barA W q) n + -1 * tieS W.ties (fun q p => vA s q * vA s p) n := by
    unfold tieS
    rw [← sumR_mul, ← sumR_add]
    refine sumR_congr fun p hp => ?_
    rw [rowS_mul]
    unfold weT rowA
    rcases hs.at hp with z | z <;> simp [z]
    omega
  rw [e, wbI]
  omega
theorem tie_ind {n m : Nat} {W : Web} (tg : TieG n m W.ties) {p : Nat} (hp : p < n) (f : Nat → Int) : tieS W.ties (fun q r => f q * indI p r) n = rowS f (rowA W p) := by
  unfold tieS
  rw [← sumR_ind (f := fun r => rowS f (rowA W r)) hp]
  refine sumR_congr fun r _ => ?_
  rw [rowS_mul]
  rfl
theorem wb_step {n m : Nat} {W : Web} (tg : TieG n m W.ties) {p : Nat} (hp : p < n) (f : Nat → Int) (d : Int) : wbI n W (fun q => f q + indI p q * d) = wbI n W f + d * (barA W p - 2 * rowS f (rowA W p)) := by
  have e1 : sumR (fun q => (f q + indI p q * d) * barA W q) n = sumR (fun q => f q * barA W q) n + d * barA W p := by
    rw [← sumR_ind (f := fun q => d * barA W q) hp, ← sumR_add]
    refine sumR_congr fun q _ => ?_
    rw [Int.add_mul, Int.mul_assoc, Int.mul_comm (indI p q)]
  have e2 : tieS W.ties (fun q r => (f q + indI p q * d) * (f r + indI p r * d)) n = tieS W.ties (fun q r => f q * f r) n + tieS W.ties (fun q r => f q * indI p r * d) n + tieS W.ties (fun q r => f r * indI p q * d) n + tieS W.ties (fun q r => indI p q * indI p r * (d * d)) n := by
    rw [← tieS_add, ← tieS_add, ← tieS_add]
    congr 1
    funext q r
    rw [Int.add_mul, Int.mul_add, Int.mul_add]
    have a1 : f q * (indI p r * d) = f q * indI p r * d := (Int.mul_assoc _ _ _).symm
    have a2 : indI p q * d * f r = f r * indI p q * d := by rw [Int.mul_comm, Int.mul_assoc]
    have a3 : indI p q * d * (indI p r * d) = indI p q * indI p r * (d * d) := by
      rw [Int.mul_assoc, Int.mul_assoc, ← Int.mul_assoc d, Int.mul_comm d (indI p r), Int.mul_assoc]
    rw [a1, a2, a3]
    omega
  have e3 : tieS W.ties (fun q r => f q * indI p r * d) n = rowS f (rowA W p) * d := by rw [tieS_mul d, tie_ind tg hp]
  have e4 : tieS W.ties (fun q r => f r * indI p q * d) n = rowS f (rowA W p) * d := by rw [tg.sym, e3]
  have e5 : tieS W.ties (fun q r => indI p q * indI p r * (d * d)) n = 0 := by
    rw [tieS_mul (d * d), tie_ind tg hp, rowS_congr (g := fun _ => 0) fun x hx => ?_, rowS_zero, Int.zero_mul]
    have rg := (tg.row p (rowA W p) (rowA_at (by rw [tg.len]; exact hp))).1 x hx
    unfold indI
    rw [if_neg (by omega)]
  unfold wbI
  rw [e1, e2, e3, e4, e5, Int.mul_sub, Int.mul_comm (rowS f (rowA W p)) d]
  have : d * (2 * rowS f (rowA W p)) = 2 * (d * rowS f (rowA W p)) := by rw [← Int.mul_assoc, Int.mul_comm d 2, Int.mul_assoc]
  rw [this]
  omega
theorem vA_step {W : Web} {s : List Int} {p : Nat} (hp : p < s.length) : vA (stepI W s p) = fun q => vA s q + indI p q * (turnedI W s p - vA s p) := by
  funext q
  unfold stepI indI
  by_cases c : q = p
  · rw [if_pos c, c, vA_set_same hp]; omega
  · rw [if_neg c, vA_set_ne (fun z => c z.symm)]; omega
/-- how far the pull is from the bar -/
def offI (W : Web) (s : List Int) (p : Nat) : Int := if barA W p < 2 * rowS (vA s) (rowA W p) then 2 * rowS (vA s) (rowA W p) - barA W p else barA W p - 2 * rowS (vA s) (rowA W p)
theorem we_step {n m : Nat} {W : Web} (h : Shape n W) (st : StayOk n W) (tg : TieG n m W.ties) {s : List Int} (hs : Stand n s ∧ fitsI W s = true) {p : Nat} (hp : p < n) (ne : turnedI W s p ≠ vA s p) : weI n W (stepI W s p) = weI n W s - offI W s p ∧ 1 ≤ offI W s p ∧ stayA W p = none := by
  have hs' := step_fits h st hs hp
  have tk := turned_kept h hs hp
  rw [we_wb hs'.1, we_wb hs.1, vA_step (by rw [hs.1.len]; exact hp), wb_step tg hp]
  unfold offI
  have b := hs.1.at hp
  by_cases c : stayA W p = none ∧ ¬ 2 * rowS (vA s) (rowA W p) = barA W p
  · rw [if_pos c] at tk
    have c2 := c.2
    by_cases z : barA W p < 2 * rowS (vA s) (rowA W p)
    · rw [if_pos z] at tk ⊢
      have v0 : vA s p = 0 := by omega
      rw [tk, v0]
      exact ⟨by omega, by omega, c.1⟩
    · rw [if_neg z] at tk ⊢
      have v0 : vA s p = 1 := by omega
      rw [tk, v0]
      exact ⟨by omega, by omega, c.1⟩
  · rw [if_neg c] at tk
    exact absurd tk ne
theorem we_run {n m : Nat} {W : Web} (h : Shape n W) (st : StayOk n W) (tg : TieG n m W.ties) : ∀ {o : List Nat} {k : Nat} {s : List Int}, Stand n s ∧ fitsI W s = true → (∀ p ∈ o, p < n) → weI n W (runI W s o) + ((chI W k s o).length : Nat) ≤ weI n W s
  | [], k, s, _, _ => by simp [chI, runI]
  | p :: o, k, s, hs, ho => by
    have hp := ho p List.mem_cons_self
    have ih := we_run h st tg (o := o) (k := k + 1) (step_fits h st hs hp) fun q hq => ho q (List.mem_cons_of_mem _ hq)
    show weI n W (runI W (stepI W s p) o) + ((chO W k s p ++ chI W (k + 1) (stepI W s p) o).length : Nat) ≤ _
    rw [List.length_append]
    by_cases c : turnedI W s p = vA s p
    · rw [step_same hs.1.len hp c] at ih ⊢
      unfold chO
      rw [if_pos c, List.length_nil]
      omega
    · have := we_step h st tg hs hp c
      unfold chO
      rw [if_neg c, List.length_singleton]
      omega
theorem run_none {n : Nat} {W : Web} : ∀ {o : List Nat} {k : Nat} {s : List Int}, s.length = n → (∀ p ∈ o, p < n) → chI W k s o = [] → runI W s o = s ∧ ∀ p ∈ o, turnedI W s p = vA s p
  | [], _, _, _, _, _ => ⟨rfl, fun _ hp => (by cases hp)⟩
  | p :: o, k, s, hs, ho, e => by
    have hp := ho p List.mem_cons_self
    have e : chO W k s p ++ chI W (k + 1) (stepI W s p) o = [] := e
    obtain ⟨e1, e2⟩ := List.append_eq_nil_iff.mp e
    have c : turnedI W s p = vA s p := Classical.byContradiction fun z => by
      unfold chO at e1
      rw [if_neg z] at e1
      cases e1
    rw [step_same hs hp c] at e2
    have ih := run_none hs (fun q hq => ho q (List.mem_cons_of_mem _ hq)) e2
    refine ⟨?_, fun q hq => ?_⟩
    · show runI W (stepI W s p) o = s
      rw [step_same hs hp c, ih.1]
    · rcases List.mem_cons.mp hq with z | z
      · rw [z]; exact c
      · exact ih.2 q z
theorem run_still {n : Nat} {W : Web} : ∀ {o : List Nat} {k : Nat} {s : List Int}, s.length = n → (∀ p ∈ o, p < n) → (∀ p ∈ o, turnedI W s p = vA s p) → chI W k s o = [] ∧ runI W s o = s
  | [], _, _, _, _, _ => ⟨rfl, rfl⟩
  | p :: o, k, s, hs, ho, a => by
    have hp := ho p List.mem_cons_self
    have c := a p List.mem_cons_self
    have ih := run_still (k := k + 1) hs (fun q hq => ho q (List.mem_cons_of_mem _ hq)) (fun q hq => a q (List.mem_cons_of_mem _ hq))
    refine ⟨?_, ?_⟩
    · show chO W k s p ++ chI W (k + 1) (stepI W s p) o = []
      unfold chO
      rw [step_same hs hp c, if_pos c, ih.1]
      rfl
    · show runI W (stepI W s p) o = s
      rw [step_same hs hp c, ih.2]
theorem run_iff {n m : Nat} {W : Web} (h : Shape n W) (st : StayOk n W) (tg : TieG n m W.ties) {o : List Nat} {k : Nat} {s : List Int} (hs : Stand n s ∧ fitsI W s = true) (ho : ∀ p ∈ o, p < n) : chI W k s o = [] ↔ runI W s o = s := by
  refine ⟨fun e => (run_none hs.1.len ho e).1, fun e => ?_⟩
  have := we_run h st tg (k := k) hs ho
  rw [e] at this
  exact List.eq_nil_of_length_eq_zero (by omega)
/-! ### rounds -/
def rdI (W : Web) (o : List Nat) (s : List Int) : Nat → List Int
  | 0 => s
  | t + 1 => runI W (rdI W o s t) o
theorem rd_fits {n : Nat} {W : Web} (h : Shape n W) (st : StayOk n W) {o : List Nat} {s : List Int} (hs : Stand n s ∧ fitsI W s = true) (ho : ∀ p ∈ o, p < n) : ∀ t, Stand n (rdI W o s t) ∧ fitsI W (rdI W o s t) = true
  | 0 => hs
  | t + 1 => run_fits h st (rd_fits h st hs ho t) ho
def SetAt (W : Web) (o : List Nat) (s : List Int) (T : Nat) : Prop := rdI W o s (T + 1) = rdI W o s T ∧ ∀ t, t < T → rdI W o s (t + 1) ≠ rdI W o s t
theorem least {P : Nat → Prop} : ∀ {N : Nat}, (∃ T, T ≤ N ∧ P T) → ∃ T, T ≤ N ∧ P T ∧ ∀ t, t < T → ¬ P t
  | 0, ⟨T, h1, h2⟩ => ⟨T, h1, h2, fun t ht => absurd ht (by omega)⟩
  | N + 1, ⟨T, h1, h2⟩ => by
    by_cases c : ∃ T, T ≤ N ∧ P T
    · obtain ⟨T, a, b, d⟩ := least c
      exact ⟨T, by omega, b, d⟩
    · exact ⟨T, h1, h2, fun t ht z => c ⟨t, by omega, z⟩⟩
theorem rd_down {n m : Nat} {W : Web} (h : Shape n W) (st : StayOk n W) (tg : TieG n m W.ties) {o : List Nat} {s : List Int} (hs : Stand n s ∧ fitsI W s = true) (ho : ∀ p ∈ o, p < n) (t : Nat) (ne : rdI W o s (t + 1) ≠ rdI W o s t) : weI n W (rdI W o s (t + 1)) + 1 ≤ weI n W (rdI W o s t) := by
  have hf := rd_fits h st hs ho t
  have a := we_run h st tg (k := 0) hf ho
  have b : chI W 0 (rdI W o s t) o ≠ [] := fun z => ne ((run_iff h st tg hf ho).mp z)
  have := List.length_pos_iff.mpr b
  show weI n W (runI W (rdI W o s t) o) + 1 ≤ _
  omega
theorem rd_far {n m : Nat} {W : Web} (h : Shape n W) (st : StayOk n W) (tg : TieG n m W.ties) {o : List Nat} {s : List Int} (hs : Stand n s ∧ fitsI W s = true) (ho : ∀ p ∈ o, p < n) {N : Nat} (ne : ∀ t, t < N → rdI W o s (t + 1) ≠ rdI W o s t) (i : Nat) : ∀ d, i + d ≤ N → weI n W (rdI W o s (i + d)) + d ≤ weI n W (rdI W o s i)
  | 0, _ => by simp
  | d + 1, hd => by
    have ih := rd_far h st tg hs ho ne i d (by omega)
    have := rd_down h st tg hs ho (i + d) (ne _ (by omega))
    rw [show i + (d + 1) = i + d + 1 by omega]
    omega
/-- a web in which all goings come to rest -/
def Calm (n : Nat) (W : Web) : Prop := freeI W n ≤ 8 ∨ ∃ B : Int, B ≤ 200000 ∧ ∀ s, Stand n s → -B ≤ weI n W s ∧ weI n W s ≤ B
theorem set_exists {n m : Nat} {W : Web} (h : Shape n W) (st : StayOk n W) (tg : TieG n m W.ties) (cm : Calm n W) {o : List Nat} {s : List Int} (hs : Stand n s ∧ fitsI W s = true) (ho : ∀ p ∈ o, p < n) : ∃ T, T ≤ 500000 ∧ SetAt W o s T := by
  refine least (P := fun T => rdI W o s (T + 1) = rdI W o s T) ?_
  refine Classical.byContradiction fun z => ?_
  have ne : ∀ t, t < 500000 → rdI W o s (t + 1) ≠ rdI W o s t := fun t ht e => z ⟨t, by omega, e⟩
  rcases cm with f8 | ⟨B, hB, b⟩
  · have l8 : 2 ^ freeI W n ≤ 2 ^ 8 := Nat.pow_le_pow_right (by omega) f8
    have := pigeon (2 ^ freeI W n) (2 ^ freeI W n + 1) (fun t => codeI W (rdI W o s t) n) (fun i _ => code_lt (rd_fits h st hs ho i).1 n (Nat.le_refl _)) (fun i j hij hj e => by
      have a := rd_far h st tg hs ho ne i (j - i) (by omega)
      rw [show i + (j - i) = j by omega] at a
      have hi := rd_fits h st hs ho i
      have hj := rd_fits h st hs ho j
      have : rdI W o s i = rdI W o s j := by
        apply List.ext_getElem?
        intro q
        have l1 := hi.1.len
        have l2 := hj.1.len
        by_cases hq : q < n
        · rw [vA_at (by omega), vA_at (s := rdI W o s j) (by omega), code_inj hi.1 hj.1 (kept_of h hi) (kept_of h hj) n (Nat.le_refl _) e q hq]
        · rw [List.getElem?_eq_none (by omega), List.getElem?_eq_none (by omega)]
      rw [this] at a
      omega)
    omega
  · have a := rd_far h st tg hs ho ne 0 500000 (by omega)
    rw [Nat.zero_add] at a
    have b1 := b _ (rd_fits h st hs ho 500000).1
    have b2 := b _ (rd_fits h st hs ho 0).1
    omega
theorem set_stays {W : Web} {o : List Nat} {s : List Int} {T : Nat} (e : rdI W o s (T + 1) = rdI W o s T) : ∀ d, rdI W o s (T + d) = rdI W o s T
  | 0 => rfl
  | d + 1 => by
    show runI W (rdI W o s (T + d)) o = _
    rw [set_stays e d]
    exact e
theorem step_mono {n : Nat} {W : Web} (po : PosT n W) (st : StayOk n W) {a b : List Int} (ha : Stand n a) (hb : Stand n b) (l : leS n a b) {p : Nat} (hp : p < n) : leS n (stepI W a p) (stepI W b p) := fun q hq => by
  have t := turned_mono (MoreW.refl po st) st st ha hb l hp
  unfold stepI
  by_cases c : p = q
  · rw [← c, vA_set_same (by rw [ha.len]; exact hp), vA_set_same (by rw [hb.len]; exact hp)]; exact t
  · rw [vA_set_ne c, vA_set_ne c]; exact l q hq
theorem run_mono {n : Nat} {W : Web} (h : Shape n W) (po : PosT n W) (st : StayOk n W) : ∀ {o : List Nat} {a b : List Int}, Stand n a ∧ fitsI W a = true → Stand n b ∧ fitsI W b = true → leS n a b → (∀ p ∈ o, p < n) → leS n (runI W a o) (runI W b o)
  | [], _, _, _, _, l, _ => l
  | p :: o, a, b, ha, hb, l, ho => by
    have hp := ho p List.mem_cons_self
    exact run_mono h po st (o := o) (step_fits h st ha hp) (step_fits h st hb hp) (step_mono po st ha.1 hb.1 l hp) fun q hq => ho q (List.mem_cons_of_mem _ hq)
theorem rd_mono {n : Nat} {W : Web} (h : Shape n W) (po : PosT n W) (st : StayOk n W) {o : List Nat} {a b : List Int} (ha : Stand n a ∧ fitsI W a = true) (hb : Stand n b ∧ fitsI W b = true) (l : leS n a b) (ho : ∀ p ∈ o, p < n) : ∀ t, leS n (rdI W o a t) (rdI W o b t)
  | 0 => l
  | t + 1 => run_mono h po st (rd_fits h st ha ho t) (rd_fits h st hb ho t) (rd_mono h po st ha hb l ho t) ho
theorem set_mono {n : Nat} {W : Web} (h : Shape n W) (po : PosT n W) (st : StayOk n W) {o : List Nat} {a b : List Int} (ha : Stand n a ∧ fitsI W a = true) (hb : Stand n b ∧ fitsI W b = true) (l : leS n a b) (ho : ∀ p ∈ o, p < n) {S T : Nat} (eS : SetAt W o a S) (eT : SetAt W o b T) : leS n (rdI W o a S) (rdI W o b T) := by
  rw [← set_stays eS.1 T, ← set_stays eT.1 S, Nat.add_comm T S]
  exact rd_mono h po st ha hb l ho _
/-- told changes put into a stand -/
def apI (s : List Int) (cs : List Tri) : List Int := cs.foldl (fun s c => s.set c.2.1.toNat c.2.2) s
theorem ap_ch {n : Nat} {W : Web} : ∀ {o : List Nat} {k : Nat} {s : List Int}, s.length = n → (∀ p ∈ o, p < n) → apI s (chI W k s o) = runI W s o
  | [], _, _, _, _ => rfl
  | p :: o, k, s, hs, ho => by
    have hp := ho p List.mem_cons_self
    have ih := ap_ch (W := W) (o := o) (k := k + 1) (s := stepI W s p) (by unfold stepI; rw [List.length_set]; exact hs) fun q hq => ho q (List.mem_cons_of_mem _ hq)
    show apI s (chO W k s p ++ chI W (k + 1) (stepI W s p) o) = runI W (stepI W s p) o
    rw [← ih]
    unfold apI
    rw [List.foldl_append]
    congr 1
    unfold chO
    by_cases c : turnedI W s p = vA s p
    · rw [if_pos c, step_same hs hp c]
      rfl
    · rw [if_neg c]
      show s.set (p : Int).toNat _ = _
      rw [Int.toNat_natCast]
      rfl
theorem ch_in {W : Web} : ∀ {o : List Nat} {k : Nat} {s : List Int} {n : Nat}, (∀ p ∈ o, p < n) → ∀ c ∈ chI W k s o, 0 ≤ c.2.1 ∧ c.2.1 < n
  | [], _, _, _, _, c, hc => (by cases hc)
  | p :: o, k, s, n, ho, c, hc => by
    have hc : c ∈ chO W k s p ++ chI W (k + 1) (stepI W s p) o := hc
    rcases List.mem_append.mp hc with z | z
    · unfold chO at z
      by_cases q : turnedI W s p = vA s p
      · rw [if_pos q] at z; cases z
      · rw [if_neg q] at z
        rw [List.mem_singleton.mp z]
        have := ho p List.mem_cons_self
        exact ⟨by simp, by simp; omega⟩
    · exact ch_in (fun q hq => ho q (List.mem_cons_of_mem _ hq)) c z
end R
namespace R
open PySem PySem.Spec PyProof.Rows L2
/-! ### lines and rings: behind a heap, a cell of digits, rows, the list of the rows -/
def hL (H : PH) (z : Int) (T : List (List (Int × Int))) : PH := H ++ ([cellH z] ++ (T.map rowH ++ [.lst (locs (H.length + 1) T.length)]))
section
variable {H : PH} {z z' : Int} {T : List (List (Int × Int))} {l n k : Nat} {r : List (Int × Int)}
theorem hL_0 (hl : H.length = l) : (hL H z T)[l]? = some (.lst [.int z]) := seg_get (S := [cellH z]) (k := 0) hl rfl
theorem hL_set0 (hl : H.length = l) : (hL H z T).set l (.lst [.int z']) = hL H z' T := by
  have := seg_set (A := H) (S := [cellH z]) (B := T.map rowH ++ [.lst (locs (H.length + 1) T.length)]) (k := 0) (x := cellH z') hl (by simp)
  exact this
theorem hL_row (hl : H.length = l) (hr : T[k]? = some r) : (hL H z T)[l + 1 + k]? = some (.lst (r.map dPair)) := by
  unfold hL
  rw [← List.append_assoc]
  refine seg_get (by simp; omega) ?_
  rw [List.getElem?_map, hr]
  rfl
theorem hL_setrow (hl : H.length = l) (hk : k < T.length) : (hL H z T).set (l + 1 + k) (.lst (r.map dPair)) = hL H z (T.set k r) := by
  unfold hL
  rw [← List.append_assoc, seg_set (by simp; omega) (by simpa using hk), List.map_set, List.length_set, List.append_assoc]
  rfl
theorem hL_ties (hl : H.length = l) (ht : T.length = n) : (hL H z T)[l + 1 + n]? = some (.lst (locs (l + 1) n)) := by
  unfold hL
  rw [← List.append_assoc, ← List.append_assoc, hl, ht]
  have := seg_get (A := H ++ [cellH z] ++ T.map rowH) (S := [HB.lst (locs (l + 1) n)]) (B := []) (p := l + 1 + n) (k := 0) (x := .lst (locs (l + 1) n)) (by simp; omega) rfl
  rw [List.append_nil] at this
  exact this
theorem hL_len (hl : H.length = l) (ht : T.length = n) : (hL H z T).length = l + n + 2 := by simp [hL]; omega
theorem hL_app (hl : H.length = l) (er : T[k]? = some r) (hz : r.length ≤ 1000) (a b : Int) : fAppend (.loc (l + 1 + k)) [.tup [.int a, .int b]] (hL H z T) = .ok .non (hL H z (T.set k (r ++ [(a, b)]))) := by
  rw [app_at (hL_row hl er) (by rw [line_eq, List.length_map]; omega), ← hL_setrow hl (List.getElem?_eq_some_iff.mp er).1, List.map_append]
  rfl
theorem hL_made (hl : H.length = l) : H ++ [cellH z] ++ List.replicate n (rowH []) ++ [.lst (locs (l + 1) n)] = hL H z (List.replicate n []) := by
  unfold hL
  rw [hl, List.length_replicate, List.map_replicate, List.append_assoc, List.append_assoc]
end
/-! ### webs of few and small ties come to rest -/
theorem mem_addT {T : List (List (Int × Int))} {k j : Nat} {w B : Int} (hT : ∀ r ∈ T, ∀ x ∈ r, x.2 ≤ B) (hw : w ≤ B) : ∀ r ∈ addT T k j w, ∀ x ∈ r, x.2 ≤ B := by
  have gd : ∀ (S : List (List (Int × Int))) (p : Nat), (∀ r ∈ S, ∀ x ∈ r, x.2 ≤ B) → ∀ x ∈ S[p]?.getD [], x.2 ≤ B := fun S p hS x hx => by
    cases e : S[p]? with
    | none => rw [e] at hx; cases hx
    | some r => rw [e] at hx; exact hS r (List.mem_of_getElem? e) x hx
  have one : ∀ (S : List (List (Int × Int))) (p : Nat) (a : Int), (∀ r ∈ S, ∀ x ∈ r, x.2 ≤ B) → ∀ r ∈ S.set p (S[p]?.getD [] ++ [(a, w)]), ∀ x ∈ r, x.2 ≤ B := fun S p a hS r hr x hx => by
    rcases List.mem_or_eq_of_mem_set hr with z | z
    · exact hS r z x hx
    · rw [z] at hx
      rcases List.mem_append.mp hx with y | y
      · exact gd S p hS x y
      · rw [List.mem_singleton.mp y]; exact hw
  unfold addT
  exact one _ _ _ (one _ _ _ hT)
theorem rowS_bd {n : Nat} {s : List Int} (hs : Stand n s) {B : Int} (hB : 0 ≤ B) : ∀ {r : List (Int × Int)}, (∀ x ∈ r, 0 ≤ x.1 ∧ x.1 < n ∧ 0 ≤ x.2 ∧ x.2 ≤ B) → 0 ≤ rowS (vA s) r ∧ rowS (vA s) r ≤ B * (r.length : Nat)
  | [], _ => by simp [rowS]
  | x :: r, h => by
    have ih := rowS_bd hs hB (r := r) fun y hy => h y (List.mem_cons_of_mem _ hy)
    have hx := h x List.mem_cons_self
    have e : rowS (vA s) (x :: r) = x.2 * vA s x.1.toNat + rowS (vA s) r := by simp [rowS]
    rw [e, List.length_cons]
    have : B * ((r.length + 1 : Nat) : Int) = B * (r.length : Nat) + B := by rw [Int.natCast_add, Int.mul_add]; simp
    rw [this]
    rcases hs.at (p := x.1.toNat) (by omega) with z | z <;> rw [z] <;> omega
theorem sumR_bd {f : Nat → Int} {B : Int} : ∀ {n : Nat}, (∀ p, p < n → -B ≤ f p ∧ f p ≤ B) → -(B * (n : Nat)) ≤ sumR f n ∧ sumR f n ≤ B * (n : Nat)
  | 0, _ => by simp [sumR]
  | n + 1, h => by
    have ih := sumR_bd (f := f) (B := B) (n := n) fun p hp => h p (by omega)
    have := h n (by omega)
    have e : B * ((n + 1 : Nat) : Int) = B * (n : Nat) + B := by rw [Int.natCast_add, Int.mul_add]; simp
    rw [e]
    show -(B * (n : Nat) + B) ≤ sumR f n + f n ∧ sumR f n + f n ≤ B * (n : Nat) + B
    omega
theorem calm_small {n m : Nat} {W : Web} (h : Shape n W) (h30 : n ≤ 30) (tg : TieG n m W.ties) (hm : m ≤ 60) (hw : ∀ r ∈ W.ties, ∀ x ∈ r, x.2 ≤ 31) (hb : ∀ b ∈ W.bars, 0 ≤ b ∧ b ≤ 2000) : Calm n W := by
  refine .inr ⟨4000 * (n : Nat), by omega, fun s hs => ?_⟩
  unfold weI
  refine sumR_bd fun p hp => ?_
  have er := rowA_at (W := W) (p := p) (by rw [tg.len]; exact hp)
  have rg := tg.row p (rowA W p) er
  have b1 := hb _ (List.mem_of_getElem? (h.bar hp))
  have b2 := rowS_bd hs (B := 31) (by omega) (r := rowA W p) fun x hx => ⟨(rg.1 x hx).1, (rg.1 x hx).2.1, by have := (rg.1 x hx).2.2.2.1; omega, hw _ (List.mem_of_getElem? er) x hx⟩
  have := rg.2
  unfold weT
  split <;> omega
/-- what is known of a line or ring -/
structure LineG (n : Nat) (W : Web) : Prop where
  shape : Shape n W
  pos : 1 ≤ n
  n30 : n ≤ 30
  tie : TieG n 1000 W.ties
  free : ∀ p, p < n → stayA W p = none
  calm : Calm n W
  bar : ∀ b ∈ W.bars, 0 ≤ b ∧ b ≤ 2000
theorem LineG.st {n : Nat} {W : Web} (h : LineG n W) : StayOk n W := fun p hp => .inl (h.free p hp)
theorem tie_pos {n m : Nat} {W : Web} (tg : TieG n m W.ties) : PosT n W := fun p hp x hx => by
  have rg := (tg.row p (rowA W p) (rowA_at (by rw [tg.len]; exact hp))).1 x hx
  exact ⟨rg.1, rg.2.1, by omega⟩
theorem fits_free {n : Nat} {W : Web} (h : Shape n W) (fr : ∀ p, p < n → stayA W p = none) {s : List Int} (hs : Stand n s) : Stand n s ∧ fitsI W s = true :=
  fits_of h hs.len fun p hp => ⟨hs.at hp, .inl (fr p hp)⟩
theorem band_one (x : Int) (hx : 0 ≤ x) : Builtin.bitAnd x 1 = 0 ∨ Builtin.bitAnd x 1 = 1 := by
  unfold Builtin.bitAnd
  have e : (decide (0 ≤ x)) = true := by simpa using hx
  have e1 : (decide ((0 : Int) ≤ 1)) = true := by decide
  rw [e, e1]
  simp only [Int.toNat_one, Nat.and_one_is_mod]
  omega
theorem oIn_nat {neg : Bool} {t : Tg} {p : Nat} {o : List Nat} {h : PH} : oIn neg (.int p) (.lst t (o.map natD)) h = .ok (.bl (if neg then !decide (p ∈ o) else decide (p ∈ o))) h := by
  have e1 : optAll fv (o.map natD) = some (o.map fun q : Nat => V.int q) := optAll_of natD (fun q : Nat => V.int q) o fun _ => rfl
  have e2 : inV (V.int p) (o.map fun q : Nat => V.int q) = decide (p ∈ o) := by
    unfold inV
    rw [List.any_map]
    rw [Bool.eq_iff_iff, List.any_eq_true, decide_eq_true_iff]
    constructor
    · rintro ⟨q, hq, e⟩
      have : (q : Int) = p := by simpa [eqV, Function.comp_def] using e
      have : q = p := by omega
      rw [← this]; exact hq
    · intro hp
      exact ⟨p, hp, by simp [eqV, Function.comp_def]⟩
  unfold oIn
  show (match fv (D.int p), (getSeq h (.lst t (o.map natD))).bind (optAll fv) with
    | some w, some ws => Out.ok (D.bl (if neg then !inV w ws else inV w ws)) h
    | _, _ => .stuck) = _
  rw [show (getSeq h (.lst t (o.map natD))).bind (optAll fv) = some (o.map fun q : Nat => V.int q) from e1]
  simp only [fv, e2]
theorem forGo_cons {chk : PH → Bool} {g : GM} {body : SM} {d : D} {r : List D} {ρ ρ2 : Rho} {h h2 : PH} (hc : chk h = true) (e : (g d ρ h).bind body = .ok (.nx ρ2) h2) : forGo chk g body (d :: r) ρ h = forGo chk g body r ρ2 h2 := by
  rw [forGo, if_pos hc]
  cases eg : g d ρ h with
  | ok ρ1 h1 =>
    rw [eg, bind_ok] at e
    rw [bind_ok, e]
    rfl
  | exc x h1 => rw [eg] at e; cases e
  | stuck => rw [eg] at e; cases e
theorem turn_rest {n : Nat} {W : Web} {s : List Int} (hs : s.length = n) : turnI n W s = s ↔ ∀ p, p < n → turnedI W s p = vA s p := by
  constructor
  · intro e p hp
    rw [← turnI_at hp, e]
  · intro a
    refine List.ext_getElem? fun p => ?_
    unfold turnI
    rw [List.getElem?_map]
    by_cases hp : p < n
    · rw [List.getElem?_range hp, vA_at (by omega), Option.map_some, a p hp]
    · rw [List.getElem?_eq_none (by simp; omega), List.getElem?_eq_none (by omega)]
      rfl
/-! ### steps of CoreV, CoreQ -/
theorem fSortIT_ints {fz : Bool} {h : PH} {ns : List Int} : fSortIT fz [.tup (ns.map .int)] h = mkL fz ((sortI ns).map .int) h := by
  unfold fSortIT
  have : optAll asInt (ns.map D.int) = some ns := optAll_int ns
  simp only [this]
@[simp] theorem fAbs_s {h : PH} {i : Int} : fAbs [.int i] h = .ok (.int (if i < 0 then -i else i)) h := (rfl)
@[simp] theorem oIs_s {h : PH} {a b : Bool} : oIs (.bl a) (.bl b) h = .ok (.bl (a == b)) h := (rfl)
@[simp] theorem oIsNot_s {h : PH} {a b : Bool} : oIsNot (.bl a) (.bl b) h = .ok (.bl (a != b)) h := (rfl)
def kLRg (fz : Bool) (d : D) (h1 : PH) : Out D := match d with
  | .int n => if 0 ≤ n ∧ n ≤ 16777216 then mkL fz (irange 0 n.toNat) h1 else .stuck
  | _ => .stuck
@[simp] theorem eLRg_s {fz : Bool} {a : EM} {ρ : Rho} {h : PH} : eLRg fz a ρ h = (a ρ h).bind (kLRg fz) := (rfl)
theorem kLRg_n {fz : Bool} {n : Nat} {h : PH} (hn : n ≤ 1000) : kLRg fz (.int n) h = mkL fz ((List.range n).map natD) h := by
  simp only [kLRg]
  rw [if_pos ⟨by omega, by omega⟩, Int.toNat_natCast]
  congr 1
  unfold irange natD
  refine List.map_congr_left fun i _ => ?_
  rw [Int.zero_add]
end R
namespace R
open PySem PySem.Spec PyProof.Rows L2
/-! ### ties told, one of them changed -/
theorem sortP_of_perm {a b : List (Int × Int)} (p : a.Perm b) : sortP a = sortP b := sortP_eq ((sortP_perm a).trans p) (sortP_sorted a)
theorem sortI2 (x y : Int) : sortI [x, y] = if x ≤ y then [x, y] else [y, x] := by
  by_cases c : x ≤ y
  · rw [if_pos c]
    exact (sortI_eq (List.Perm.refl _) (by simp [c])).symm
  · rw [if_neg c]
    exact (sortI_eq (List.Perm.swap _ _ _) (by simp; omega)).symm
def sameT (a b : Int) (t : Tri) : Bool := decide ((t.1 = a ∧ t.2.1 = b) ∨ (t.1 = b ∧ t.2.1 = a))
theorem sort_same (a b : Int) (t : Tri) : decide (sortI [t.1, t.2.1] = sortI [a, b]) = sameT a b t := by
  unfold sameT
  rw [sortI2, sortI2]
  congr 1
  rw [eq_iff_iff]
  by_cases c1 : t.1 ≤ t.2.1 <;> by_cases c2 : a ≤ b <;> simp only [c1, c2, if_true, if_false, List.cons.injEq, and_true] <;> omega
def withT (T : List Tri) (a b w : Int) : List Tri := (T.filter fun t => !sameT a b t) ++ (if 0 < w then [(a, b, w)] else [])
theorem withT_ok {n : Nat} {T : List Tri} (k : TriOk n T) {a b w : Int} (a0 : 0 ≤ a) (an : a < n) (b0 : 0 ≤ b) (bn : b < n) (ne : a ≠ b) (w4 : w ≤ 400) : TriOk n (withT T a b w) := by
  have hf : ∀ t ∈ T.filter (fun t => !sameT a b t), t ∈ T ∧ ¬ ((t.1 = a ∧ t.2.1 = b) ∨ (t.1 = b ∧ t.2.1 = a)) := fun t ht => by
    obtain ⟨h1, h2⟩ := List.mem_filter.mp ht
    refine ⟨h1, ?_⟩
    unfold sameT at h2
    rw [Bool.not_eq_true', decide_eq_false_iff_not] at h2
    exact h2
  unfold withT
  by_cases c : 0 < w
  · rw [if_pos c]
    refine ⟨fun t ht => ?_, List.pairwise_append.mpr ⟨k.un.sublist List.filter_sublist, by simp, fun s hs t ht => ?_⟩⟩
    · rcases List.mem_append.mp ht with z | z
      · exact k.bd t (hf t z).1
      · rw [List.mem_singleton.mp z]
        exact ⟨a0, an, b0, bn, ne, (show 1 ≤ w by omega), w4⟩
    · rw [List.mem_singleton.mp ht]
      have := (hf s hs).2
      unfold triU
      simp only
      omega
  · rw [if_neg c, List.append_nil]
    exact ⟨fun t ht => k.bd t (hf t ht).1, k.un.sublist List.filter_sublist⟩
theorem rowC_append {S T : List Tri} {p : Nat} : rowC (S ++ T) p = rowC S p ++ rowC T p := by simp [rowC]
theorem rowC_cons {t : Tri} {T : List Tri} {p : Nat} : rowC (t :: T) p = ctr t p ++ rowC T p := by simp [rowC]
theorem rowC_keep {a b : Int} {p : Nat} (pa : (p : Int) ≠ a) (pb : (p : Int) ≠ b) : ∀ T : List Tri, rowC (T.filter fun t => !sameT a b t) p = rowC T p
  | [] => rfl
  | t :: T => by
    rw [List.filter_cons]
    by_cases c : sameT a b t = true
    · rw [if_neg (by rw [c]; simp), rowC_cons, rowC_keep pa pb T]
      have : ctr t p = [] := by
        unfold sameT at c
        rw [decide_eq_true_iff] at c
        unfold ctr
        rw [if_neg (by omega), if_neg (by omega)]
      rw [this, List.nil_append]
    · rw [if_pos (by simpa using c), rowC_cons, rowC_cons, rowC_keep pa pb T]
theorem rowC_cut {n : Nat} {a b : Int} {p : Nat} (ne : a ≠ b) (pa : (p : Int) = a) : ∀ T : List Tri, (∀ t ∈ T, triB n t) → rowC (T.filter fun t => !sameT a b t) p = (rowC T p).filter fun x => decide (x.1 ≠ b)
  | [], _ => rfl
  | t :: T, hb => by
    have ih := rowC_cut (n := n) ne pa T fun x hx => hb x (List.mem_cons_of_mem _ hx)
    have bt := hb t List.mem_cons_self
    have b5 := bt.2.2.2.2.1
    rw [List.filter_cons, rowC_cons, List.filter_append, ← ih]
    by_cases c : sameT a b t = true
    · rw [if_neg (by rw [c]; simp)]
      have : (ctr t p).filter (fun x => decide (x.1 ≠ b)) = [] := by
        unfold sameT at c
        rw [decide_eq_true_iff] at c
        unfold ctr
        rcases c with ⟨c1, c2⟩ | ⟨c1, c2⟩
        · rw [if_pos (by omega)]; simp [c2]
        · rw [if_neg (by omega), if_pos (by omega)]; simp [c1]
      rw [this, List.nil_append]
    · rw [if_pos (by simpa using c), rowC_cons]
      congr 1
      unfold sameT at c
      rw [decide_eq_true_iff] at c
      unfold ctr
      by_cases d1 : t.1 = p
      · rw [if_pos d1, List.filter_cons, if_pos (by rw [decide_eq_true_iff]; show t.2.1 ≠ b; omega)]; rfl
      · rw [if_neg d1]
        by_cases d2 : t.2.1 = p
        · rw [if_pos d2, List.filter_cons, if_pos (by rw [decide_eq_true_iff]; show t.1 ≠ b; omega)]; rfl
        · rw [if_neg d2]; rfl
def tiedI (r : List (Int × Int)) (b w : Int) : List (Int × Int) := sortP ((r.filter fun x => decide (x.1 ≠ b)) ++ (if 0 < w then [(b, w)] else []))
theorem sameT_comm {a b : Int} : sameT a b = sameT b a := by
  funext t
  unfold sameT
  congr 1
  rw [eq_iff_iff]
  omega
theorem tied_one {n : Nat} {T : List Tri} (k : TriOk n T) {a : Nat} {b w : Int} (ne : (a : Int) ≠ b) : tiedI (sortP (rowC T a)) b w = sortP (rowC (withT T a b w) a) := by
  unfold tiedI withT
  refine sortP_of_perm ?_
  rw [rowC_append, rowC_cut ne rfl T k.bd]
  refine ((sortP_perm _).filter _).append ?_
  by_cases c : 0 < w
  · rw [if_pos c, if_pos c]
    simp [rowC, ctr]
  · rw [if_neg c, if_neg c]
    simp [rowC]
theorem tied_other {n : Nat} {T : List Tri} (k : TriOk n T) {a : Int} {b : Nat} {w : Int} (ne : a ≠ (b : Int)) : tiedI (sortP (rowC T b)) a w = sortP (rowC (withT T a b w) b) := by
  unfold tiedI withT
  refine sortP_of_perm ?_
  rw [rowC_append, sameT_comm, rowC_cut (fun z => ne z.symm) rfl T k.bd]
  refine ((sortP_perm _).filter _).append ?_
  by_cases c : 0 < w
  · rw [if_pos c, if_pos c]
    simp [rowC, ctr, ne]
  · rw [if_neg c, if_neg c]
    simp [rowC]
theorem rowC_else {T : List Tri} {a b w : Int} {p : Nat} (pa : (p : Int) ≠ a) (pb : (p : Int) ≠ b) : rowC (withT T a b w) p = rowC T p := by
  unfold withT
  rw [rowC_append, rowC_keep pa pb]
  by_cases c : 0 < w
  · rw [if_pos c]
    have : rowC [(a, b, w)] p = [] := by
      simp only [rowC, List.flatMap_cons, List.flatMap_nil, List.append_nil, ctr]
      rw [if_neg (fun z => pa z.symm), if_neg (fun z => pb z.symm)]
    rw [this, List.append_nil]
  · rw [if_neg c]
    simp [rowC]
theorem rows_eq {n : Nat} {T : List Tri} (k : TriOk n T) : (rowsF n T).map sortP = (List.range n).map fun p => sortP (rowC T p) := by
  obtain ⟨l, e⟩ := rowsF_at k.bd
  refine List.ext_getElem? fun p => ?_
  rw [List.getElem?_map, List.getElem?_map]
  by_cases hp : p < n
  · rw [rows_at k hp, List.getElem?_range hp]
    rfl
  · rw [List.getElem?_eq_none (by omega), List.getElem?_eq_none (by simp; omega)]
    rfl
theorem with_rows {n : Nat} {T : List Tri} (k : TriOk n T) {a b : Nat} {w : Int} (an : a < n) (bn : b < n) (ne : a ≠ b) (w4 : w ≤ 400) :
    (((rowsF n T).map sortP).set a (tiedI (sortP (rowC T a)) b w)).set b (tiedI (sortP (rowC T b)) a w) = (rowsF n (withT T a b w)).map sortP := by
  have k' := withT_ok k (a := a) (b := b) (w := w) (by omega) (by omega) (by omega) (by omega) (by omega) w4
  rw [rows_eq k, rows_eq k', tied_one k (by omega), tied_other k (by omega)]
  refine List.ext_getElem? fun p => ?_
  by_cases pb : p = b
  · subst pb
    rw [List.getElem?_set_self (by simp [bn]), List.getElem?_map, List.getElem?_range bn]
    rfl
  · rw [List.getElem?_set_ne (fun z => pb z.symm)]
    by_cases pa : p = a
    · subst pa
      rw [List.getElem?_set_self (by simp [an]), List.getElem?_map, List.getElem?_range an]
      rfl
    · rw [List.getElem?_set_ne (fun z => pa z.symm), List.getElem?_map, List.getElem?_map]
      by_cases hp : p < n
      · rw [List.getElem?_range hp]
        show some (sortP (rowC T p)) = some (sortP (rowC (withT T a b w) p))
        rw [rowC_else (by omega) (by omega)]
      · rw [List.getElem?_eq_none (by simp; omega)]
        rfl
/-- the weight of the tie between two, 0 where none is told -/
def oldW (T : List Tri) (a b : Int) : Int := (((T.filterMap fun t => if sameT a b t then some t.2.2 else none) ++ [0])[0]?).getD 0
theorem filter_filter_same {T : List Tri} {a b : Int} : (T.filter fun t => !sameT a b t).filter (fun t => !sameT b a t) = T.filter fun t => !sameT a b t := by
  rw [sameT_comm (a := b), List.filter_filter]
  congr 1
  funext t
  simp
theorem with_with {T : List Tri} {a b w v : Int} : withT (withT T a b w) b a v = (T.filter fun t => !sameT a b t) ++ (if 0 < v then [(b, a, v)] else []) := by
  have e : (withT T a b w).filter (fun t => !sameT b a t) = T.filter fun t => !sameT a b t := by
    unfold withT
    rw [List.filter_append, filter_filter_same]
    by_cases c : 0 < w
    · rw [if_pos c, List.filter_cons_of_neg (by unfold sameT; simp), List.filter_nil, List.append_nil]
    · rw [if_neg c, List.filter_nil, List.append_nil]
  show (withT T a b w).filter (fun t => !sameT b a t) ++ _ = _
  rw [e]
theorem ctr_swap {a b w : Int} {p : Nat} (ne : a ≠ b) : ctr (a, b, w) p = ctr (b, a, w) p := by
  unfold ctr
  simp only
  by_cases c1 : a = p
  · rw [if_pos c1, if_neg (by omega), if_pos c1]
  · rw [if_neg c1]
    by_cases c2 : b = p
    · rw [if_pos c2, if_pos c2]
    · rw [if_neg c2, if_neg c2, if_neg c1]
/-- taking a tie away and putting it back -/
theorem row_back {n : Nat} {a b : Int} {p : Nat} (ne : a ≠ b) : ∀ {T : List Tri}, TriOk n T → (rowC ((T.filter fun t => !sameT a b t) ++ (if 0 < oldW T a b then [(b, a, oldW T a b)] else [])) p).Perm (rowC T p)
  | [], _ => by simp [oldW, rowC]
  | t :: T, k => by
    have k' : TriOk n T := ⟨fun x hx => k.bd x (List.mem_cons_of_mem _ hx), (List.pairwise_cons.mp k.un).2⟩
    have bt := k.bd t List.mem_cons_self
    by_cases c : sameT a b t = true
    · have none : ∀ x ∈ T, sameT a b x = false := fun x hx => by
        have u := (List.pairwise_cons.mp k.un).1 x hx
        unfold sameT at c ⊢
        rw [decide_eq_true_iff] at c
        rw [decide_eq_false_iff_not]
        unfold triU at u
        omega
      have ef : (t :: T).filter (fun t => !sameT a b t) = T := by
        rw [List.filter_cons_of_neg (by rw [c]; simp)]
        exact List.filter_eq_self.mpr fun x hx => by rw [none x hx]; rfl
      have eo : oldW (t :: T) a b = t.2.2 := by
        unfold oldW
        rw [List.filterMap_cons_some (b := t.2.2) (by rw [c]; rfl)]
        rfl
      have w1 := bt.2.2.2.2.2.1
      rw [ef, eo, if_pos (by omega), rowC_append]
      have e1 : rowC [(b, a, t.2.2)] p = ctr t p := by
        have : ctr (b, a, t.2.2) p = ctr t p := by
          unfold sameT at c
          rw [decide_eq_true_iff] at c
          obtain ⟨x, y, z⟩ := t
          simp only at c
          rcases c with ⟨rfl, rfl⟩ | ⟨rfl, rfl⟩
          · exact (ctr_swap ne).symm
          · rfl
        simp [rowC, this]
      rw [e1, rowC_cons]
      exact List.perm_append_comm
    · have c' : sameT a b t = false := by simpa using c
      have ih := row_back (p := p) ne k'
      have eo : oldW (t :: T) a b = oldW T a b := by
        unfold oldW
        rw [List.filterMap_cons_none (by rw [c']; rfl)]
      rw [List.filter_cons_of_pos (by rw [c']; rfl), eo, List.cons_append, rowC_cons, rowC_cons]
      exact ih.append_left _
theorem web_back {n : Nat} {T : List Tri} (k : TriOk n T) {a b : Nat} {w : Int} (an : a < n) (bn : b < n) (ne : a ≠ b) (w4 : w ≤ 400) {bars : List Int} {stays : List (Option Int)} (v4 : oldW T a b ≤ 400) : webT n (withT (withT T a b w) b a (oldW T a b)) bars stays = webT n T bars stays := by
  have k1 := withT_ok k (a := a) (b := b) (w := w) (by omega) (by omega) (by omega) (by omega) (by omega) w4
  have k2 := withT_ok k1 (a := b) (b := a) (w := oldW T a b) (by omega) (by omega) (by omega) (by omega) (by omega) v4
  unfold webT
  congr 1
  rw [rows_eq k2, rows_eq k]
  refine List.map_congr_left fun p _ => sortP_of_perm ?_
  rw [with_with]
  exact row_back (by omega) k
theorem oldW_bd {n : Nat} {a b : Int} : ∀ {T : List Tri}, (∀ t ∈ T, triB n t) → 0 ≤ oldW T a b ∧ oldW T a b ≤ 400
  | [], _ => by simp [oldW]
  | t :: T, h => by
    have ih := oldW_bd (a := a) (b := b) (T := T) fun x hx => h x (List.mem_cons_of_mem _ hx)
    have bt := h t List.mem_cons_self
    by_cases c : sameT a b t = true
    · have eo : oldW (t :: T) a b = t.2.2 := by
        unfold oldW
        rw [List.filterMap_cons_some (b := t.2.2) (by rw [c]; rfl)]
        rfl
      rw [eo]
      exact ⟨by have := bt.2.2.2.2.2.1; omega, bt.2.2.2.2.2.2⟩
    · have eo : oldW (t :: T) a b = oldW T a b := by
        unfold oldW
        rw [List.filterMap_cons_none (by rw [if_neg c])]
      rw [eo]
      exact ih
end R
namespace R
open PySem PySem.Spec PyProof.Rows L2
theorem popAt_at {h : PH} {n j : Nat} {ds : List D} {y : D} (e : h[n]? = some (.lst ds)) (hj : ds[j]? = some y) (hz : ds.length ≤ 1000) : fPopAt (.loc n) [.int (j : Int)] h = .ok y (h.set n (.lst (ds.eraseIdx j))) := by
  have hl := (List.getElem?_eq_some_iff.mp hj).1
  have es : seqIndex? (j : Int) ds.length = some j := by
    have h0 : ¬ (j : Int) < 0 := by omega
    have h1 : (0 : Int) ≤ j := by omega
    simp [seqIndex?, h0, h1, hl]
  unfold fPopAt
  simp only
  rw [if_pos (by omega), onL_at e]
  unfold popI
  rw [es]
  simp only [hj, Option.map_some, ofOn_s]
theorem forGo_exc {chk : PH → Bool} {g : GM} {body : SM} {d : D} {r : List D} {ρ : Rho} {h h2 : PH} {x : Ex} (hc : chk h = true) (e : (g d ρ h).bind body = .exc x h2) : forGo chk g body (d :: r) ρ h = .exc x h2 := by
  rw [forGo, if_pos hc]
  cases eg : g d ρ h with
  | ok ρ1 h1 =>
    rw [eg, bind_ok] at e
    rw [bind_ok, e]
    rfl
  | exc x h1 => rw [eg] at e; exact e
  | stuck => rw [eg] at e; cases e
theorem oAdd_ll {fz : Bool} {t t' : Tg} {xs ys : List D} {h : PH} (ht : t ≠ .cst) (ht' : t' ≠ .cst) (hz : xs.length + ys.length ≤ 1000000) : oAdd fz (.lst t xs) (.lst t' ys) h = mkL fz (xs ++ ys) h := by
  have z : sizeOk (xs.length + ys.length) = true := by rw [sizeOk, decide_eq_true_iff, line_eq]; omega
  have e1 : getLx h (.lst t xs) = some xs := by cases t <;> first | rfl | exact absurd rfl ht
  have e2 : getLx h (.lst t' ys) = some ys := by cases t' <;> first | rfl | exact absurd rfl ht'
  show (match getLx h (.lst t xs), getLx h (.lst t' ys) with
    | some xs, some ys => if sizeOk (xs.length + ys.length) then mkL fz (xs ++ ys) h else .stuck
    | _, _ => .stuck) = _
  rw [e1, e2]
  simp only [z, if_true]
@[simp] theorem eOth_s {ρ : Rho} {h : PH} : eOth ρ h = .ok (.oth true) h := (rfl)
@[simp] theorem kIsN_oth {b : Bool} {h : PH} : kIsN (.oth b) h = .ok (.bl false) h := (rfl)
@[simp] theorem kNotN_oth {b : Bool} {h : PH} : kNotN (.oth b) h = .ok (.bl true) h := (rfl)
@[simp] theorem fIsi_oth {b : Bool} {c : Ty} {h : PH} : fIsi [.oth b, .ty c] h = .ok (.bl (isTy .dct c)) h := (rfl)
@[simp] theorem snap_oth {b : Bool} {h : PH} : snapF h 16 (.oth b) = some (.oth false) := (rfl)
@[simp] theorem res_oth {h : PH} : resF h 16 (.oth true) = some (.oth true) := (rfl)
end R
namespace R
open PySem PySem.Spec PyProof.Rows L2
/-! ### a def that is called where no other call is under way (so nothing guards a repr) -/
structure FnG (P : Program) (w : World) (K : PySem.W.Frag) (mg : Str → Option Value) (base : Heap) (k : Nat) (f : Addr) (fd : FuncData) (ps : List Str) (sp : Sp) : Prop where
  one : ∀ xs H Q E, sp xs H Q E → xs.length = ps.length
  go : ∀ (B : Around) (out : List Env) (t : Shared) (H : Hp) (as : Args) (us : List Value) (xs : List V) (Q : VK) (E : XK), Room k B → B.guards = some [] → Env0 P w K mg base B out t H →
    BindsTo t fd as (ps.zip us) → Vals xs us → sp xs H Q E → codeAny (model P w) B (.call (.ref f) as) (CR (L2.CX P w) out P w H t Q E) t
section
variable {P : Program} {w : World} {K : PySem.W.Frag} {mg : Str → Option Value} {base : Heap} {x qual : Str} {params : Arguments} {body : List Stmt} {scope : Scope} {f : Addr} {fd : FuncData} {N ps : List Str} {k : Nat} {bm : SM} {sp : Sp}
theorem fnG_of (F : FunD K x qual params body scope [] [] f fd) (S : FnScope N ps scope) (hl : ∀ xs H Q E, sp xs H Q E → xs.length = ps.length)
    (hb : ∀ (cdv : Value) (B : Around) (out : List Env) (t : Shared) (H : Hp) (xs : List V) (Q : VK) (E : XK), B.guards = some [] → Room k (B.deeper (envOfC qual scope t.heap.objs.size f cdv)) → sp xs H Q E →
      ∃ z, PSs (cxOf (L2.CX P w) P w K mg base N qual scope f cdv B out t H E) body z ∧ z { nx := fun _ G => Q .non G, rt := Q } (start N xs) H) :
    FnG P w K mg base (k + 1) f fd ps sp := by
  obtain ⟨oc, od, dV, kV, doc, pm, an, cdv, ct, osl, rfl, lk, hcd, _, _⟩ := F.ex
  refine ⟨hl, fun B out t H as us xs Q E hr hg e0 bd rv q0 => ?_⟩
  have ln := hl _ _ _ _ q0
  have ki : K.In t.heap := e0.mod.kin.keeps fun b o e => (e0.bs b o e).1
  have nl : t.heap.NoLimit := e0.mod.nolimit.keeps fun b o e => (e0.bs b o e).1
  have par : ∀ y ∈ ps.zip us, scope.names.lookup y.1 = some .local ∨ (scope.names.lookup y.1 = some .cell ∧ ((cellsFrom (t.heap.objs.size + 1) scope.names []).lookup y.1).isSome = true) := by
    rintro ⟨n, u⟩ hy
    exact (S.par n (List.of_mem_zip hy).1).imp id fun z => ⟨z, PySem.W.cellsFrom_some _ _ _ (.inl z)⟩
  refine codeAny_call_function hr.depth (ki _ _ lk) rfl S.co S.gen rfl (PySem.W.codeRec_of ki hcd) (bd _ _ _ _ ?_)
  refine wpAny_newFunctionEnv_cells S.kind par fun en hen t1 st => ?_
  subst hen
  refine ⟨nl.keeps st.toInCall.keep, codeAny_func ?_⟩
  obtain ⟨z, hz, qz⟩ := hb cdv B out t H xs Q E hg (hr.deeper _) q0
  have I0 : Inv (cxOf (L2.CX P w) P w K mg base N qual scope f cdv B out t H E) [] (start N xs) H t1 := inv_start S hr.hd e0 ln rv st
  refine wpAny_mono (hz.run [] t1 (start N xs) H _ I0 qz) (fun fl t2 hs => ?_) fun e t2 hs => hs
  cases fl with
  | ret u =>
    obtain ⟨v, _, H2, J, r2, q2⟩ := hs
    exact ⟨v, H2, J.os, J.bare, J.base, J.hok, r2, q2⟩
  | next =>
    obtain ⟨_, H2, J, q2⟩ := hs
    exact ⟨V.non, H2, J.os, J.bare, J.base, J.hok, rfl, q2⟩
  | brk => exact hs.elim fun _ z => z.elim fun _ z => z.2.elim
  | cont => exact hs.elim fun _ z => z.elim fun _ z => z.2.elim
theorem fn_okG (F : FunD K x qual params body scope [] [] f fd) (S : FnScope N ps scope) (hb : ∀ (E : XK) (cdv : Value) (A : Around) (outer : List Env) (s : Shared) (H : Hp), A.guards = some [] → Room k (A.deeper (envOfC qual scope s.heap.objs.size f cdv)) → RSs (CxB P w K mg base N qual scope f cdv A outer s H E) E body bm) :
    FnG P w K mg base (k + 1) f fd ps (spP K mg (fnP ps.length N.length bm) ps.length) :=
  fnG_of F S (fun vs H Q E h => h.1) fun cdv A outer s H vs Q E hg hr ⟨_, ds, r, q⟩ => ⟨_, hb E cdv A outer s H hg hr, fnM_read (np := ps.length) sim_entry r (by
    unfold fnP at q
    cases e : fnM ps.length N.length bm ds [] with
    | ok d h' =>
      rw [e] at q
      simp only at q
      cases e2 : resF h' 16 d with
      | none => rw [e2] at q; exact (q : False).elim
      | some d' =>
        rw [e2] at q
        exact fun v S' H' e' s' r' => q v H' (fun a o ho => e'.keep a o (by simp [Sx.entry]) ho) (res_ok e' s' 16 d d' v e2 r')
    | exc x h' =>
      rw [e] at q
      exact fun S' H' e' s' => q H' (fun a o ho => e'.keep a o (by simp [Sx.entry]) ho)
    | stuck => rw [e] at q; exact (q : False).elim)⟩
end
/-! ### the law's own call -/
def GoesG (P : Program) (w : World) (fa a : Addr) (t : Shared) : Prop :=
  codeAny (model P w) callerA (.call (.ref fa) ⟨[.ref a], []⟩) (fun r t2 => r = .ok (.ret (.bool true)) ∧ PySem.OldK t.heap t2.heap ∧ t2.os = t.os ∧ AllBare t2.gens) t
theorem goesG {P : Program} {w : World} {K : PySem.W.Frag} {mg mb : Str → Option Value} {k : Nat} {fa a : Addr} {fd : FuncData} {x : Str} {m : List D → Res} {t : Shared} {vs : List Value} {ns : List Int} {H : Hp}
    (ki : K.In t.heap) (nm : t.heap.Ns mainGlobals mg) (nb : t.heap.Ns builtinsNs mb) (bb : ∀ x : Str, x ≠ "__name__" → mb x = bootBuiltins x) (nl : t.heap.NoLimit) (ng : t.gens = #[])
    (oa : t.heap.get? a = some { cls := .type "list", data := .seq vs.toArray }) (hr : Room k callerA)
    (hF : ∀ b : Heap, K.In b → b.Ns mainGlobals mg → FnG P w K mg b k fa fd [x] (spP K mg m 1)) (bd : ∀ (s : Shared) (u : Value), BindsTo s fd ⟨[u], []⟩ [(x, u)])
    (hm : m [.lst .cst (ns.map D.int)] = .ok (.bl true)) (hS : SqL K H a (ns.map V.int)) (hf : ∀ b, H b ≠ none → b = a ∧ ∃ o, H b = some (.frz o (.lst (ns.map V.int)))) (hka : H a ≠ none → K.lookup a = none) (ok : HOk P w H t.heap) :
    GoesG P w fa a t := by
  have nd : ∀ {b : Addr} {o : Obj} {es : Array DictEntry} {ep : Nat}, t.heap.get? b = some o → o.data = .dict es ep → H b = none := by
    intro b o es ep e d
    apply Classical.byContradiction
    intro z
    rw [(hf b z).1, oa] at e
    cases e
    exact Data.noConfusion d
  have nk : ∀ {b : Addr} {q : Str → Option Value}, t.heap.Ns b q → (hidT t.heap H).Ns b q := fun ⟨o, es, ep, e, d, r⟩ => ⟨o, es, ep, hidT_get e (nd e d), d, r⟩
  have kb : K.In (hidT t.heap H) := by
    intro b o e
    refine hidT_get (ki b o e) (Classical.byContradiction fun z => ?_)
    have eb := (hf b z).1
    rw [eb] at z e
    rw [hka z] at e
    cases e
  have md : Mod K mg (hidT t.heap H) := ⟨kb, nk nm, ⟨mb, nk nb, bb⟩, nl.elim fun q h => ⟨q, nk h.1, h.2⟩⟩
  have e0 : Env0 P w K mg (hidT t.heap H) callerA [] t H := ⟨rfl, md, fun b o e => of_hidT e, Nat.le_of_eq (hidT_size _ _), trivial, fun b z => (nomatch z), ok, .of_eq ng⟩
  have rd : spP K mg m 1 [.ref a] H (fun v _ => v = .bl true) fun _ _ _ => False := by
    refine ⟨rfl, [.lst .cst (ns.map D.int)], ?_, ?_⟩
    · refine ⟨.ref a, [], rfl, ⟨a, ns.map V.int, rfl, ?_, reps_ints ns⟩, rfl⟩
      rcases hS with (e | ⟨o, e⟩) | e
      · exact .inr (.inr ⟨e, by show H a ≠ none; rw [e]; simp⟩)
      · exact .inl ⟨o, e⟩
      · exact .inr (.inl e)
    · rw [hm]
      exact fun v H' _ r => r
  refine codeAny_mono ((hF _ kb (nk nm)).go callerA [] t H ⟨[.ref a], []⟩ [.ref a] [.ref a] _ _ hr rfl e0 (bd t (.ref a)) (.cons rfl .nil) rd) fun r t2 h => ?_
  match r, h with
  | .error e, h => exact (cx_none h).elim
  | .ok .next, h => exact h.elim
  | .ok .brk, h => exact h.elim
  | .ok .cont, h => exact h.elim
  | .ok (.ret u), ⟨v, H2, os, bare, un, ok2, r2, q⟩ =>
    have q : v = .bl true := q
    subst q
    have r2 : u = Value.bool true := r2
    subst r2
    refine ⟨rfl, PySem.OldK.of_keep fun b o e => ?_, os, bare⟩
    by_cases z : H b = none
    · exact un.keep b o e z (fun y => (nomatch y)) (fun y => (nomatch y))
    · obtain ⟨o1, z1⟩ := (hf b z).2
      have g1 := (ok b _ z1).1
      have g2 := (ok2 b _ (un.frzs b o1 _ z1)).1
      rw [e] at g1
      cases g1
      exact g2
theorem law_callG {P : Program} {w : World} {K : PySem.W.Frag} {mg mb : Str → Option Value} {k : Nat} {fa a : Addr} {fd : FuncData} {x : Str} {m : List D → Res} {t : Shared} {vs : List Value} {ns : List Int}
    (ki : K.In t.heap) (nm : t.heap.Ns mainGlobals mg) (nb : t.heap.Ns builtinsNs mb) (bb : ∀ x : Str, x ≠ "__name__" → mb x = bootBuiltins x) (nl : t.heap.NoLimit) (ng : t.gens = #[])
    (oa : t.heap.get? a = some { cls := .type "list", data := .seq vs.toArray }) (hi : IntsAre vs ns) (hz : ns.length ≤ sizeLine) (hr : Room k callerA)
    (hF : ∀ b : Heap, K.In b → b.Ns mainGlobals mg → FnG P w K mg b k fa fd [x] (spP K mg m 1)) (bd : ∀ (s : Shared) (u : Value), BindsTo s fd ⟨[u], []⟩ [(x, u)])
    (hm : m [.lst .cst (ns.map D.int)] = .ok (.bl true)) : GoesG P w fa a t := by
  have rv := vals_ints hi
  have lv := hi.length
  by_cases hk : K.lookup a = none
  · have g : ∀ b u, (if b = a then some (HO.frz { cls := .type "list", data := .seq vs.toArray } (.lst (ns.map V.int))) else none) = some u → b = a ∧ u = .frz { cls := .type "list", data := .seq vs.toArray } (.lst (ns.map V.int)) := by
      intro b u e
      split at e
      · rename_i z
        cases e
        exact ⟨z, rfl⟩
      · cases e
    refine goesG (H := fun b => if b = a then some (.frz { cls := .type "list", data := .seq vs.toArray } (.lst (ns.map V.int))) else none) ki nm nb bb nl ng oa hr hF bd hm (.inl (.inr ⟨_, if_pos rfl⟩)) (fun b z => ?_) (fun _ => hk) fun b u e => ?_
    · cases e : (if b = a then some (HO.frz { cls := .type "list", data := .seq vs.toArray } (.lst (ns.map V.int))) else none) with
      | none => exact absurd e z
      | some u =>
        obtain ⟨e1, e2⟩ := g b u e
        exact ⟨e1, _, congrArg some e2⟩
    · obtain ⟨e1, e2⟩ := g b u e
      subst e1
      subst e2
      exact ⟨oa, by rw [List.length_map]; exact hz, vs, _, rv, oa⟩
  · cases ek : K.lookup a with
    | none => exact absurd ek hk
    | some o =>
      have e := ki a o ek
      rw [oa] at e
      cases e
      exact goesG (H := fun _ => none) ki nm nb bb nl ng oa hr hF bd hm (.inr ⟨_, vs.toArray, _, ek, rfl, rfl, rfl, by rw [List.size_toArray, lv]; exact hz, by simpa using rv⟩) (fun b z => absurd rfl z) (fun z => absurd rfl z) fun b u e => nomatch e
def LawG (l : PySem.W.OpenLaw) (w : World) (K : PySem.W.Frag) (k n : Nat) (x : Str) (mg : Str → Option Value) (fa : Addr) : Prop :=
  ∃ (fd : FuncData) (m : List D → Res), (∀ (s : Shared) (u : Value), BindsTo s fd ⟨[u], []⟩ [(x, u)]) ∧ (∀ b : Heap, K.In b → b.Ns mainGlobals mg → FnG l.prog w K mg b k fa fd [x] (spP K mg m 1)) ∧
    ∀ ns : List Int, ns.length ≤ n → (∀ z ∈ ns, Builtin.Int.intBits z ≤ 1048576) → m [.lst .cst (ns.map D.int)] = .ok (.bl true)
theorem walk_ofG {l : PySem.W.OpenLaw} {n k : Nat} {q : Program} {loose : List Str} {XP : (Str → Option Value) → Heap → Prop} {YP : World → Heap → Prop} {d : DefRec} {x : Str}
    (hn : l.most = some n) (hn2 : n ≤ sizeLine) (hdf : d.params.defaults = []) (hr : Room k callerA)
    (hF : ∀ (w : World) (mg : Str → Option Value) (fa : Addr) (h : Heap), YP w h → h.Ns mainGlobals mg → mg d.name = some (.ref fa) → ∃ K : PySem.W.Frag, K.In h ∧ LawG l w K k n x mg fa) :
    PySem.W.WalkO q loose XP YP l.row.toRowW d [] (fun f vs => PySem.call f vs) := by
  refine Att.attach_callB hn hdf fun w s₀ s₁ mg mb fa o pm cd doc a vs ns G Y ho hd hcd hmg oa hi hl hz ng => ?_
  obtain ⟨K, ki, fd, m, bd, F, hm⟩ := hF w mg fa _ Y G.T.g hmg
  exact law_callG ki G.T.g G.T.b G.T.builtins G.T.nolimit ng oa hi (Nat.le_trans hl hn2) hr F bd (hm ns hl hz)
/-! ### repr -/
def rRepr (K : PySem.W.Frag) : List V → Hp → VK → Prop := fun vs H Q =>
  ∃ (a : Addr) (p : PyData), vs = [.ref a] ∧ Dp K H (.ref a) p ∧ PdOk 64 p ∧ p.showable = true ∧ p.shown.length ≤ sizeLine ∧ Q (.str p.shown) H
theorem cr_repr {X : Cx} (hg : X.A.guards = some []) (hu : X.A.units + 65 < cLine) : CallR X (.builtin "repr") (rRepr X.K) := by
  intro pins s σ H xs us Q I rs h
  obtain ⟨a, p, rfl, dp, ok, sh, ln, q⟩ := h
  cases rs with
  | cons r1 r2 =>
    cases r2
    have r1 := r1
    cases r1
    obtain ⟨as, rd⟩ := Dp.reads I p _ _ dp rfl
    exact repr_of_reads' rd sh (PyData.noDict_hsm (PyData.hasDict_of_canLay p ok.1)) hg (Nat.lt_of_le_of_lt (Nat.add_le_add_left (Nat.succ_le_succ ok.2) _) hu) (fun _ _ e => e) (fun h' u tk hk => ⟨.str p.shown, H, I.kept hk, ⟨_, rfl⟩, q⟩) ln
def isRef : D → Bool | .tup _ => true | .lst _ _ => true | .loc _ => true | _ => false
def fRepr (ds : List D) (h : PH) : Out D := match ds with
  | [d] => match pdF h 64 d with
    | some p => if isRef d = true ∧ p.showable = true ∧ p.shown.length ≤ sizeLine then .ok (.str p.shown) h else .stuck
    | none => .stuck
  | _ => .stuck
section
variable {K : PySem.W.Frag} {mg : Str → Option Value} {E : XK} {S : Sx} {H : Hp} {h : PH}
theorem rep_ref {d : D} {v : V} (r : Rep K mg S H d v) (e : isRef d = true) : ∃ a, v = .ref a := by
  cases d with
  | tup ds => exact r.elim fun a z => z.elim fun vs z => ⟨a, z.1⟩
  | lst g ds => exact r.elim fun a z => z.elim fun vs z => ⟨a, z.1⟩
  | loc n => exact r.elim fun a z => ⟨a, z.2⟩
  | _ => cases e
theorem cs_repr : CallS K mg E (rRepr K) fRepr := fun S H h xs ds Q sim r q => by
  unfold fRepr at q
  split at q
  · rename_i d
    obtain ⟨u, rfl, ru⟩ := r.one_inv
    split at q
    · rename_i p ep
      split at q
      · rename_i c
        obtain ⟨a, rfl⟩ := rep_ref ru c.1
        obtain ⟨dp, ok⟩ := pd_ok sim 64 d p _ ep ru
        exact ⟨a, p, rfl, dp, ok, c.2.1, c.2.2, Post.get (b := V.str _) q sim rfl⟩
      · exact q.elim
    · exact q.elim
  · exact q.elim
end
/-! ### in, not in: by == of data -/
def rInD (K : PySem.W.Frag) (neg : Bool) : R2 := fun x y H Q => ∃ (a : Addr) (p q : PyData) (ps : List PyData), y = .ref a ∧ Dp K H y q ∧ Dp K H x p ∧ (q = .list ps ∨ q = .tuple ps) ∧ PyData.canLayAll0 ps = true ∧ PdOk 63 p ∧ Q (.bl (if neg then !ps.any fun z => PyData.eqv z p else ps.any fun z => PyData.eqv z p)) H
def oInD (neg : Bool) (a : D) (b : D) (h : PH) : Out D := match pdF h 63 a, pdF h 64 b with
  | some p, some (.list ps) => .ok (.bl (if neg then !ps.any fun z => PyData.eqv z p else ps.any fun z => PyData.eqv z p)) h
  | some p, some (.tuple ps) => .ok (.bl (if neg then !ps.any fun z => PyData.eqv z p else ps.any fun z => PyData.eqv z p)) h
  | _, _ => .stuck
theorem lay_list {k : Nat} {ps : List PyData} (h : PdOk k (.list ps)) : PyData.canLayAll0 ps = true := by simpa [PyData.canLay0] using h.1
theorem lay_tuple {k : Nat} {ps : List PyData} (h : PdOk k (.tuple ps)) : PyData.canLayAll0 ps = true := by simpa [PyData.canLay0] using h.1
theorem room_in {u a b : Nat} (hu : u + 65 < cLine) (hb : b ≤ 63) : u + 1 + min a b < cLine := by omega
theorem op_inD {X : Cx} (hu : X.A.units + 65 < cLine) : OpR X (compareOp .In) (rInD X.K false) := by
  intro pins s σ H x y v u Q I rx ry ⟨a, p, q, ps, ey, dq, dp, c, lay, ok, g⟩
  obtain ⟨bs, r1⟩ := Dp.reads I p x v dp rx
  obtain ⟨as, r2⟩ := Dp.reads I q y u dq ry
  rcases c with rfl | rfl
  · exact SeqAt.in_list_reads r2 r1 lay ok.1 (room_in hu ok.2) ⟨.bl _, H, I, rfl, g⟩
  · exact SeqAt.in_tuple_reads r2 r1 lay ok.1 (room_in hu ok.2) ⟨.bl _, H, I, rfl, g⟩
theorem op_notInD {X : Cx} (hu : X.A.units + 65 < cLine) : OpR X (compareOp .NotIn) (rInD X.K true) := by
  intro pins s σ H x y v u Q I rx ry ⟨a, p, q, ps, ey, dq, dp, c, lay, ok, g⟩
  obtain ⟨bs, r1⟩ := Dp.reads I p x v dp rx
  obtain ⟨as, r2⟩ := Dp.reads I q y u dq ry
  rcases c with rfl | rfl
  · exact SeqAt.notIn_list_reads r2 r1 lay ok.1 (room_in hu ok.2) ⟨.bl _, H, I, rfl, g⟩
  · exact SeqAt.notIn_tuple_reads r2 r1 lay ok.1 (room_in hu ok.2) ⟨.bl _, H, I, rfl, g⟩
theorem dp_refL {K : PySem.W.Frag} {H : Hp} {x : V} {ps : List PyData} (r : Dp K H x (.list ps)) : ∃ a, x = V.ref a := by
  cases r
  exact ⟨_, rfl⟩
theorem dp_refT {K : PySem.W.Frag} {H : Hp} {x : V} {ps : List PyData} (r : Dp K H x (.tuple ps)) : ∃ a, x = V.ref a := by
  cases r
  exact ⟨_, rfl⟩
theorem os_inD {K : PySem.W.Frag} {mg : Str → Option Value} {E : XK} {neg : Bool} : OpS K mg E (rInD K neg) (oInD neg) := fun S H h x y dx dy Q sim rx ry q => by
  unfold oInD at q
  split at q
  · rename_i p ps e1 e2
    obtain ⟨h1, h2⟩ := pd_ok sim 63 _ _ _ e1 rx
    obtain ⟨h3, h4⟩ := pd_ok sim 64 _ _ _ e2 ry
    obtain ⟨a, rfl⟩ := dp_refL h3
    exact ⟨a, p, _, ps, rfl, h3, h1, .inl rfl, lay_list h4, h2, Post.get (b := V.bl _) q sim rfl⟩
  · rename_i p ps e1 e2
    obtain ⟨h1, h2⟩ := pd_ok sim 63 _ _ _ e1 rx
    obtain ⟨h3, h4⟩ := pd_ok sim 64 _ _ _ e2 ry
    obtain ⟨a, rfl⟩ := dp_refT h3
    exact ⟨a, p, _, ps, rfl, h3, h1, .inr rfl, lay_tuple h4, h2, Post.get (b := V.bl _) q sim rfl⟩
  · exact q.elim
/-! ### the greatest of a list of ints -/
def fMaxS (ds : List D) (h : PH) : Out D := match ds with
  | [d] => match (getL h d).bind (optAll asInt) with
    | some ns => match ns.max? with
      | some m => .ok (.int m) h
      | none => .stuck
    | none => .stuck
  | _ => .stuck
theorem cs_maxS {K : PySem.W.Frag} {mg : Str → Option Value} {E : XK} : CallS K mg E (rMax K) fMaxS := fun S H h xs ds Q sim r q => by
  unfold fMaxS at q
  split at q
  · obtain ⟨x, rfl, rx⟩ := r.one_inv
    split at q
    · rename_i ns e
      obtain ⟨ds, e1, e2⟩ := Option.bind_eq_some_iff.mp e
      obtain ⟨a, vs, rfl, t, rs⟩ := getL_ok sim rx e1
      have e3 := ints_ok rs e2
      subst e3
      split at q
      · rename_i m em
        obtain ⟨m1, m2⟩ := List.max?_eq_some_iff.mp em
        refine ⟨a, ns, rfl, t, List.length_pos_of_mem m1, fun z hz hle => ?_⟩
        have : z = m := Int.le_antisymm (m2 z hz) (hle m m1)
        subst this
        exact Post.get (b := V.int _) q sim rfl
      · exact q.elim
    · exact q.elim
  · exact q.elim
end R
namespace R
open PySem PySem.Spec PyProof.Rows L2
section
variable {K : PySem.W.Frag} {mg : Str → Option Value} {E : XK}
/-! ### texts -/
def fJoin (d : D) (as : List D) (h : PH) : Out D := match d, as with
  | .str a, [y] => (match (getSeq h y).bind (optAll asStr) with
    | some ys => if (ys.map (·.length)).sum + ys.length * a.length ≤ 16777216 then .ok (.str (Txt.join a ys)) h else .stuck
    | none => .stuck)
  | _, _ => .stuck
def rJoin (K : PySem.W.Frag) : V → List V → Hp → VK → Prop := fun x xs H Q => ∃ a p, ∃ ys : List Str, x = .str a ∧ xs = [.ref p] ∧ (SqL K H p (ys.map V.str) ∨ SqT K H p (ys.map V.str)) ∧
    (ys.map (·.length)).sum + ys.length * a.length ≤ 16777216 ∧ Q (.str (Txt.join a ys)) H
theorem ms_join : MtS K mg E (rJoin K) fJoin := fun S H h x xs d ds Q sim r rs q => by
  unfold fJoin at q
  split at q
  · obtain ⟨y, rfl, ry⟩ := rs.one_inv
    have r : x = .str _ := r
    subst r
    split at q
    · rename_i ys e
      obtain ⟨es, e1, e2⟩ := Option.bind_eq_some_iff.mp e
      obtain ⟨p, vs, rfl, t, rv⟩ := getSeq_ok sim ry e1
      have e3 := strs_ok rv e2
      subst e3
      split at q
      · rename_i hz
        exact ⟨_, p, ys, rfl, rfl, t, hz, Post.get (b := V.str _) q sim rfl⟩
      · exact q.elim
    · exact q.elim
  · exact q.elim
end
end R
namespace R
open PySem PySem.Spec PyProof.Rows L2
/-! ### list(zip(a, b)) of two lists -/
theorem zip_no_len : typeLookup (.type "zip") "__len__" = pure none := by rw [typeLookup_type, builtinLookup_eq_fast]; kernel_rfl
theorem zip_no_hint : typeLookup (.type "zip") "__length_hint__" = pure none := by rw [typeLookup_type, builtinLookup_eq_fast]; kernel_rfl
structure ZSt (h : Heap) (z TI TO i1 i2 l1 l2 S : Addr) (i : Nat) (xs ys : Array Value) : Prop where
  ti : IsPair h TI (.ref i1) (.ref i2)
  it1 : h.IsListIter i1 l1 i
  it2 : h.IsListIter i2 l2 i
  ls1 : h.IsList l1 xs
  ls2 : h.IsList l2 ys
  zz : (IsZip h z TI TO .none ∧ ∃ x y, IsPair h TO x y) ∨ ∃ T f oT, IsZipHeld h z TI TO T f ∧ h.get? T = some oT ∧ T ≠ z ∧ T ≠ TO ∧ T ≠ i1 ∧ T ≠ i2 ∧ T ≠ S
structure ZLow (z TI TO i1 i2 l1 l2 S : Addr) : Prop where
  z : z < S
  ti : TI < S
  to : TO < S
  i1 : i1 < S
  i2 : i2 < S
  l1 : l1 < S
  l2 : l2 < S
theorem isList_at {h h' : Heap} {l : Addr} {xs : Array Value} (x : h.IsList l xs) (hk : ∀ o, h.get? l = some o → h'.get? l = some o) : h'.IsList l xs := by
  obtain ⟨o, ho, r⟩ := x
  exact ⟨o, hk o ho, r⟩
section
variable {z TI TO i1 i2 l1 l2 S : Addr} {i : Nat} {xs ys : Array Value}
theorem ZSt.keep {h h' : Heap} (st : ZSt h z TI TO i1 i2 l1 l2 S i xs ys) (L : ZLow z TI TO i1 i2 l1 l2 S) (hk : ∀ b o, b ≠ S → h.get? b = some o → h'.get? b = some o) : ZSt h' z TI TO i1 i2 l1 l2 S i xs ys := by
  obtain ⟨a, b, c, d, e, f⟩ := st
  refine ⟨hk _ _ (Nat.ne_of_lt L.ti) a, b.at fun o q => hk _ o (Nat.ne_of_lt L.i1) q, c.at fun o q => hk _ o (Nat.ne_of_lt L.i2) q, isList_at d fun o q => hk _ o (Nat.ne_of_lt L.l1) q, isList_at e fun o q => hk _ o (Nat.ne_of_lt L.l2) q, ?_⟩
  rcases f with ⟨f1, x, y, f2⟩ | ⟨T, f, oT, f1, f2, t1, t2, t3, t4, t5⟩
  · exact .inl ⟨hk _ _ (Nat.ne_of_lt L.z) f1, x, y, hk _ _ (Nat.ne_of_lt L.to) f2⟩
  · exact .inr ⟨T, f, oT, hk _ _ (Nat.ne_of_lt L.z) f1, hk _ _ t5 f2, t1, t2, t3, t4, t5⟩
variable {prog : Program} {w : World} {A : Around} {E : Value → Shared → Prop} {s : Shared}
theorem zst_item {x y : Value} {Q : Option Value → Shared → Prop} (D : ZipApart z TI TO i1 i2 l1 l2) (st : ZSt s.heap z TI TO i1 i2 l1 l2 S i xs ys) (hS : S < s.heap.objs.size) (hx : xs[i]? = some x) (hy : ys[i]? = some y)
    (hQ : ∀ h', ZSt h' z TI TO i1 i2 l1 l2 S (i + 1) xs ys → IsPair h' s.heap.objs.size x y → h'.objs.size = s.heap.objs.size + 1 → (∀ c o, c ≠ z → c ≠ TO → c ≠ i1 → c ≠ i2 → s.heap.get? c = some o → h'.get? c = some o) → Q (some (.ref s.heap.objs.size)) { s with heap := h' }) :
    wpAny (model prog w) A (pyNext (.ref z)) Q E s := by
  obtain ⟨a, b, c, d, e, f⟩ := st
  have q1 : i1 < s.heap.objs.size := by obtain ⟨o, ho, _⟩ := b; exact Heap.lt_size ho
  have q2 : i2 < s.heap.objs.size := by obtain ⟨o, ho, _⟩ := c; exact Heap.lt_size ho
  rcases f with ⟨f1, x0, y0, f2⟩ | ⟨T, f, oT, f1, f2, t1, t2, t3, t4, t5⟩
  · refine wpAny_pyNext_zip_item D f1 a f2 b c d e hx hy fun h' g1 g2 g3 g4 g5 g6 hk => hQ h' ⟨hk _ _ D.TIz D.TITO D.TIi1 D.TIi2 a, g3, g4, isList_at d fun o q => hk _ o D.l1z D.l1TO D.l1i1 D.l1i2 q, isList_at e fun o q => hk _ o D.l2z D.l2TO D.l2i1 D.l2i2 q, .inr ⟨_, false, _, g1, g5, ?_, ?_, ?_, ?_, ?_⟩⟩ g5 g6 hk
    · exact Nat.ne_of_gt (Heap.lt_size f1)
    · exact Nat.ne_of_gt (Heap.lt_size f2)
    · exact Nat.ne_of_gt q1
    · exact Nat.ne_of_gt q2
    · exact Nat.ne_of_gt hS
  · refine wpAny_pyNext_zip_item_held D f1 f2 a b c d e hx hy fun h' g1 g3 g4 g5 g6 hk => hQ h' ⟨hk _ _ D.TIz D.TIi1 D.TIi2 a, g3, g4, isList_at d fun o q => hk _ o D.l1z D.l1i1 D.l1i2 q, isList_at e fun o q => hk _ o D.l2z D.l2i1 D.l2i2 q, .inr ⟨T, true, oT, g1, hk _ _ t1 t3 t4 f2, t1, t2, t3, t4, t5⟩⟩ g5 g6 fun c o c1 _ c3 c4 q => hk c o c1 c3 c4 q
theorem zst_done {Q : Option Value → Shared → Prop} (hh : A.handled = none) (D : ZipApart z TI TO i1 i2 l1 l2) (st : ZSt s.heap z TI TO i1 i2 l1 l2 S i xs ys) (hend : xs[i]? = none ∨ ys[i]? = none)
    (hQ : ∀ h', (∀ c o, c ≠ z → c ≠ TO → c ≠ i1 → c ≠ i2 → s.heap.get? c = some o → h'.get? c = some o) → Q none { s with heap := h' }) : wpAny (model prog w) A (pyNext (.ref z)) Q E s := by
  obtain ⟨a, b, c, d, e, f⟩ := st
  rcases f with ⟨f1, x0, y0, f2⟩ | ⟨T, f, oT, f1, f2, t1, t2, t3, t4, t5⟩
  · exact wpAny_pyNext_zip_end hh D f1 a f2 b c d e hend hQ
  · exact wpAny_pyNext_zip_end_held hh D f1 f2 a b c d e hend fun h' hk => hQ h' fun c o c1 _ c3 c4 q => hk c o c1 c3 c4 q
structure ZG (xs ys : Array Value) (lo : Addr) (h : Heap) (as : List Addr) : Prop where
  rise : as.Pairwise (· < ·)
  above : ∀ a ∈ as, lo < a
  pairs : ∀ (j : Nat) (a : Addr), as[j]? = some a → ∃ x y, xs[j]? = some x ∧ ys[j]? = some y ∧ IsPair h a x y
theorem ZG.there {lo : Addr} {h : Heap} {as : List Addr} (g : ZG xs ys lo h as) {a : Addr} (ha : a ∈ as) : a < h.objs.size := by
  obtain ⟨j, hj⟩ := List.mem_iff_getElem?.mp ha
  obtain ⟨_, _, _, _, e⟩ := g.pairs j a hj
  exact Heap.lt_size e
theorem zl_loop {R : Result → Shared → Prop} (hh : A.handled = none) (D : ZipApart z TI TO i1 i2 l1 l2) (L : ZLow z TI TO i1 i2 l1 l2 S) (hn : min xs.size ys.size ≤ sizeLine) (res : Value) {h₁ : Heap}
    (hR : ∀ h' tk acc c as, (∀ b o, b ≠ S → b ≠ z → b ≠ TO → b ≠ i1 → b ≠ i2 → h₁.get? b = some o → h'.get? b = some o) → h'.get? S = some { cls := .type "list", dict := none, data := .seq acc c, slots := #[] } → as.length = min xs.size ys.size → ZG xs ys S h' as →
      acc.toList = as.map Value.ref → R (.ok (.ret res)) { s with heap := h', toks := tk }) :
    ∀ (k i : Nat) (h : Heap) (tk c : Nat) (acc : Array Value) (as : List Addr), min xs.size ys.size - i = k → i ≤ min xs.size ys.size → ZSt h z TI TO i1 i2 l1 l2 S i xs ys → (∀ b o, b ≠ S → b ≠ z → b ≠ TO → b ≠ i1 → b ≠ i2 → h₁.get? b = some o → h.get? b = some o) →
      h.get? S = some { cls := .type "list", dict := none, data := .seq acc c, slots := #[] } → acc.toList = as.map Value.ref → as.length = i → ZG xs ys S h as →
      codeAny (model prog w) A (.builtin "list.extend.loop" ⟨[.ref S, .ref z, res], []⟩) R { s with heap := h, toks := tk } := by
  have Sz : S ≠ z := Nat.ne_of_gt L.z
  have STO : S ≠ TO := Nat.ne_of_gt L.to
  have S1 : S ≠ i1 := Nat.ne_of_gt L.i1
  have S2 : S ≠ i2 := Nat.ne_of_gt L.i2
  intro k
  induction k with
  | zero =>
    intro i h tk c acc as hk hi hst hkeep hS hacc hal hG
    have hend : xs[i]? = none ∨ ys[i]? = none := by
      rcases Nat.le_total xs.size ys.size with q | q
      · exact .inl (Array.getElem?_eq_none (by omega))
      · exact .inr (Array.getElem?_eq_none (by omega))
    refine codeAny_builtin PySem.F.entry_extend_loop ?_
    rw [Around.under_plainId PySem.F.plain_extend_loop _]
    show wpAny _ A.in1 (pyNext (.ref z) >>= _) _ _ _
    refine wpAny_bind (zst_done (s := { s with heap := h, toks := tk }) (A := A.in1) hh D hst hend fun h' he => ?_)
    refine wpAny_pure (hR h' tk acc c as (fun b o h1 h2 h3 h4 h5 e => he b o h2 h3 h4 h5 (hkeep b o h1 h2 h3 h4 h5 e)) (he S _ Sz STO S1 S2 hS) (by omega) ⟨hG.rise, hG.above, fun j a hj => ?_⟩ hacc)
    obtain ⟨x, y, e1, e2, e3⟩ := hG.pairs j a hj
    have ha := hG.above a (List.mem_of_getElem? hj)
    exact ⟨x, y, e1, e2, he a _ (Nat.ne_of_gt (Nat.lt_trans L.z ha)) (Nat.ne_of_gt (Nat.lt_trans L.to ha)) (Nat.ne_of_gt (Nat.lt_trans L.i1 ha)) (Nat.ne_of_gt (Nat.lt_trans L.i2 ha)) e3⟩
  | succ k ih =>
    intro i h tk c acc as hk hi hst hkeep hS hacc hal hG
    have hlt : i < min xs.size ys.size := by omega
    obtain ⟨x, hx⟩ : ∃ x, xs[i]? = some x := ⟨_, Array.getElem?_eq_getElem (by omega)⟩
    obtain ⟨y, hy⟩ : ∃ y, ys[i]? = some y := ⟨_, Array.getElem?_eq_getElem (by omega)⟩
    have hsz : acc.size = i := by rw [← Array.length_toList, hacc, List.length_map, hal]
    refine codeAny_builtin PySem.F.entry_extend_loop ?_
    rw [Around.under_plainId PySem.F.plain_extend_loop _]
    show wpAny _ A.in1 (pyNext (.ref z) >>= _) _ _ _
    refine wpAny_bind (zst_item (s := { s with heap := h, toks := tk }) D hst (Heap.lt_size hS) hx hy fun h' hst' ht hz hkp => ?_)
    dsimp only at ht hz hkp ⊢
    have hS' := hkp S _ Sz STO S1 S2 hS
    have up : ∀ b o, b ≠ S → h'.get? b = some o → (h'.update S (Obj.mapSeq (·.push (Value.ref h.objs.size)))).get? b = some o := fun b o hb e => (Heap.get?_update_other _ _ (Ne.symm hb)).trans e
    have hSl : S < h.objs.size := Heap.lt_size hS
    show wpAny _ A.in1 (updateSeq S (·.push (Value.ref h.objs.size)) >>= _) _ _ _
    refine wpAny_bind ?_
    refine wpAny_updateSeq hS' rfl (wpAny_pure ⟨plainId_quiet PySem.F.plain_extend_loop _, ih (i + 1) _ tk _ (acc.push (Value.ref h.objs.size)) (as ++ [h.objs.size]) (by omega) hlt (hst'.keep L up)
      (fun b o h1 h2 h3 h4 h5 e => up b o h1 (hkp b o h2 h3 h4 h5 (hkeep b o h1 h2 h3 h4 h5 e))) (Heap.get?_update_self _ hS' rfl) (by rw [Array.toList_push, hacc, List.map_append]; rfl) (by rw [List.length_append, hal]; rfl) ⟨?_, ?_, ?_⟩⟩) (by rw [hsz]; omega) (by show (acc.push (Value.ref h.objs.size)).size ≤ sizeLine + 1; rw [Array.size_push, hsz]; omega)
    · refine List.pairwise_append.mpr ⟨hG.rise, List.pairwise_singleton _ _, fun a ha b hb => ?_⟩
      rw [List.mem_singleton.mp hb]
      exact hG.there ha
    · intro a ha
      rcases List.mem_append.mp ha with ha | ha
      · exact hG.above a ha
      · rw [List.mem_singleton.mp ha]; exact hSl
    · intro j b hj
      rcases Nat.lt_trichotomy j as.length with h1 | h1 | h1
      · rw [List.getElem?_append_left h1] at hj
        obtain ⟨x', y', e1, e2, e3⟩ := hG.pairs j b hj
        have hb := hG.above b (List.mem_of_getElem? hj)
        exact ⟨x', y', e1, e2, up b _ (Nat.ne_of_gt hb) (hkp b _ (Nat.ne_of_gt (Nat.lt_trans L.z hb)) (Nat.ne_of_gt (Nat.lt_trans L.to hb)) (Nat.ne_of_gt (Nat.lt_trans L.i1 hb)) (Nat.ne_of_gt (Nat.lt_trans L.i2 hb)) e3)⟩
      · subst h1
        have hb : h.objs.size = b := by simpa using hj
        subst hb
        exact ⟨x, y, by rw [hal]; exact hx, by rw [hal]; exact hy, up _ _ (Nat.ne_of_gt hSl) ht⟩
      · have hnone : (as ++ [h.objs.size])[j]? = none := List.getElem?_eq_none (by rw [List.length_append, List.length_singleton]; omega)
        rw [hnone] at hj; cases hj
theorem zl_extend {R : Result → Shared → Prop} (hh : A.handled = none) (D : ZipApart z TI TO i1 i2 l1 l2) (L : ZLow z TI TO i1 i2 l1 l2 S) (st : ZSt s.heap z TI TO i1 i2 l1 l2 S 0 xs ys) (hzz : IsZip s.heap z TI TO .none) (hn : min xs.size ys.size ≤ sizeLine) (res : Value) (c₀ : Nat)
    (hS : s.heap.get? S = some { cls := .type "list", data := .seq #[] c₀ })
    (hR : ∀ h' tk acc c as, (∀ b o, b ≠ S → b ≠ z → b ≠ TO → b ≠ i1 → b ≠ i2 → s.heap.get? b = some o → h'.get? b = some o) → h'.get? S = some { cls := .type "list", dict := none, data := .seq acc c, slots := #[] } → as.length = min xs.size ys.size → ZG xs ys S h' as →
      acc.toList = as.map Value.ref → R (.ok (.ret res)) { s with heap := h', toks := tk }) :
    wpAny (model prog w) A.in1 (Builtin.List.listExtendWith (.ref S) (.ref z) res)
      (fun fin s' => match fin with | .done f => R (.ok f) s' | .again c' => c'.quiet = true ∧ codeAny (model prog w) A c' R s') (fun e s' => R (.error e) s') s := by
  have hT : s.TypeIs (.ref z) "zip" := ⟨_, hzz, rfl⟩
  have hSz : S ≠ z := Nat.ne_of_gt L.z
  unfold Builtin.List.listExtendWith
  refine wpAny_bind (wpAny_typeOf hT ?_)
  have h1 : Builtin.List.listSameRef (.ref S) (.ref z) = false := by simp [Builtin.List.listSameRef, hSz]
  have h2 : (Value.type "zip" == Value.type "list") = false := by decide
  have h3 : (Value.type "zip" == Value.type "tuple") = false := by decide
  simp only [h1, h2, h3, Bool.or_false, Bool.false_eq_true, if_false]
  refine wpAny_bind (wpAny_pyIter_zip hzz ?_)
  refine wpAny_bind (wpAny_holding ?_)
  unfold Builtin.List.listLengthHint
  refine wpAny_bind (wpAny_specialOf hT zip_no_len ?_)
  show wpAny _ A.in1 (specialOf (Value.ref z) (Str.ofString "__length_hint__") >>= _) _ _ _
  refine wpAny_bind (wpAny_specialOf hT zip_no_hint ?_)
  refine wpAny_pure ?_
  show wpAny _ A.in1 (rule "list.extend.makes-room" >>= fun _ => Builtin.List.listTouch (.ref S) >>= fun _ =>
    again (.builtin "list.extend.loop" ⟨[.ref S, .ref z, res], []⟩)) _ _ _
  refine wpAny_bind (wpAny_rule ?_)
  refine wpAny_bind ?_
  show wpAny _ A.in1 (updateSeq S (·.push .none) >>= fun _ => updateSeq S (·.pop)) _ _ _
  refine wpAny_bind (wpAny_updateSeq hS rfl ?_)
  have hS₂ := Heap.get?_update_self (Obj.mapSeq (·.push Value.none)) hS rfl
  refine wpAny_updateSeq (hz := by seq_fits) hS₂ rfl ?_
  have hS₃ := Heap.get?_update_self (Obj.mapSeq (·.pop)) hS₂ rfl
  have oth : ∀ b o, b ≠ S → s.heap.get? b = some o → ((s.heap.update S (Obj.mapSeq (·.push Value.none))).update S (Obj.mapSeq (·.pop))).get? b = some o :=
    fun b o hb e => (Heap.get?_update_other _ _ (Ne.symm hb)).trans ((Heap.get?_update_other _ _ (Ne.symm hb)).trans e)
  exact wpAny_pure ⟨plainId_quiet PySem.F.plain_extend_loop _, zl_loop (s := s) (h₁ := s.heap) hh D L hn res hR (min xs.size ys.size) 0 _ s.toks _ #[] [] (Nat.sub_zero _) (Nat.zero_le _) (st.keep L oth) (fun b o hb _ _ _ _ e => oth b o hb e) hS₃ rfl rfl
    ⟨List.Pairwise.nil, (fun _ ha => nomatch ha), (fun j a hj => by simp at hj)⟩⟩
theorem zl_init {R : Result → Shared → Prop} (hh : A.handled = none) (D : ZipApart z TI TO i1 i2 l1 l2) (L : ZLow z TI TO i1 i2 l1 l2 S) (st : ZSt s.heap z TI TO i1 i2 l1 l2 S 0 xs ys) (hzz : IsZip s.heap z TI TO .none) (hn : min xs.size ys.size ≤ sizeLine)
    (hS : s.heap.get? S = some { cls := .type "list", data := .seq #[] })
    (hR : ∀ h' tk acc c as, (∀ b o, b ≠ S → b ≠ z → b ≠ TO → b ≠ i1 → b ≠ i2 → s.heap.get? b = some o → h'.get? b = some o) → h'.get? S = some { cls := .type "list", dict := none, data := .seq acc c, slots := #[] } → as.length = min xs.size ys.size → ZG xs ys S h' as →
      acc.toList = as.map Value.ref → R (.ok (.ret .none)) { s with heap := h', toks := tk }) :
    wpAny (model prog w) A.in1 (Builtin.«list.__init__» ⟨[.ref S, .ref z], []⟩)
      (fun fin s' => match fin with | .done f => R (.ok f) s' | .again c' => c'.quiet = true ∧ codeAny (model prog w) A c' R s') (fun e s' => R (.error e) s') s := by
  show wpAny _ A.in1 (do let old ← Builtin.List.listItems (.ref S); Builtin.List.listUpdate (.ref S) (fun _ => #[]); letGo old.toList.reverse; Builtin.List.listExtendWith (.ref S) (.ref z) .none) _ _ s
  refine wpAny_bind ?_
  unfold Builtin.List.listItems
  refine wpAny_bind (wpAny_seqItems hS rfl (wpAny_pure ?_))
  show wpAny _ A.in1 (updateSeq S (fun _ => #[]) >>= fun _ => letGo (#[] : Array Value).toList.reverse >>= fun _ => Builtin.List.listExtendWith (.ref S) (.ref z) .none) _ _ s
  refine wpAny_bind (wpAny_updateSeq hS rfl ?_)
  have hS₂ := Heap.get?_update_self (Obj.mapSeq (fun _ => (#[] : Array Value))) hS rfl
  have oth : ∀ b o, b ≠ S → s.heap.get? b = some o → (s.heap.update S (Obj.mapSeq (fun _ => (#[] : Array Value)))).get? b = some o :=
    fun b o hb e => (Heap.get?_update_other _ _ (Ne.symm hb)).trans e
  refine wpAny_bind (wpAny_letGo ?_)
  refine zl_extend hh D L (st.keep L oth) (oth z _ (Nat.ne_of_lt L.z) hzz) hn .none _ hS₂ fun h' tk acc c as hk hS' hl hG hacc => ?_
  exact hR h' tk acc c as (fun b o hb h2 h3 h4 h5 e => hk b o hb h2 h3 h4 h5 (oth b o hb e)) hS' hl hG hacc
theorem zl_call {Q : Value → Shared → Prop} (hh : A.handled = none) (D : ZipApart z TI TO i1 i2 l1 l2) (hti : IsPair s.heap TI (.ref i1) (.ref i2)) (h1 : s.heap.IsListIter i1 l1 0) (h2 : s.heap.IsListIter i2 l2 0) (hl1 : s.heap.IsList l1 xs) (hl2 : s.heap.IsList l2 ys) (hzz : IsZip s.heap z TI TO .none) {x0 y0 : Value} (hto : IsPair s.heap TO x0 y0) (hn : min xs.size ys.size ≤ sizeLine)
    (hQ : ∀ h' tk acc c as, (∀ b o, b ≠ z → b ≠ TO → b ≠ i1 → b ≠ i2 → s.heap.get? b = some o → h'.get? b = some o) → h'.get? s.heap.objs.size = some { cls := .type "list", dict := none, data := .seq acc c, slots := #[] } → as.length = min xs.size ys.size → ZG xs ys s.heap.objs.size h' as →
      acc.toList = as.map Value.ref → Q (.ref s.heap.objs.size) { s with heap := h', toks := tk }) :
    wpAny (model prog w) A (call (.type "list") [.ref z]) Q E s := by
  refine callType_codes (Q₁ := fun obj s₁ => obj = .ref s.heap.objs.size ∧ s₁ = { s with heap := s.heap.push { cls := .type "list", data := .seq #[] } }) PySem.F.called_list (PySem.F.typeCall_list_1 _) PySem.F.entry_list_init
    (code_list_new _ ⟨rfl, rfl⟩) fun obj s₁ h₁ => ?_
  obtain ⟨rfl, rfl⟩ := h₁
  have hS : (s.heap.push { cls := .type "list", data := .seq #[] }).get? s.heap.objs.size = some { cls := .type "list", data := .seq #[] } := Heap.get?_push_size _ rfl
  have pu : ∀ b o, s.heap.get? b = some o → (s.heap.push { cls := .type "list", data := .seq #[] }).get? b = some o := fun b o e => Heap.get?_push_of_some _ e
  have L : ZLow z TI TO i1 i2 l1 l2 s.heap.objs.size := ⟨Heap.lt_size hzz, Heap.lt_size hti, Heap.lt_size hto, (by obtain ⟨o, ho, _⟩ := h1; exact Heap.lt_size ho), (by obtain ⟨o, ho, _⟩ := h2; exact Heap.lt_size ho), (by obtain ⟨o, ho, _⟩ := hl1; exact Heap.lt_size ho), (by obtain ⟨o, ho, _⟩ := hl2; exact Heap.lt_size ho)⟩
  refine ⟨⟨_, hS, rfl⟩, PySem.F.args_list_init_2 _ _, zl_init (A := A.in1) hh D L ⟨pu _ _ hti, h1.at fun o q => pu _ o q, h2.at fun o q => pu _ o q, isList_at hl1 fun o q => pu _ o q, isList_at hl2 fun o q => pu _ o q, .inl ⟨pu _ _ hzz, x0, y0, pu _ _ hto⟩⟩ (pu _ _ hzz) hn hS fun h' tk acc c as hk hS' hl hG hacc => ?_⟩
  exact ⟨rfl, hQ h' tk acc c as (fun b o h2 h3 h4 h5 e => hk b o (Nat.ne_of_lt (Heap.lt_size e)) h2 h3 h4 h5 (pu b o e)) hS' hl hG hacc⟩
end
theorem paired_imp {α β : Type} {F G : α → β → Prop} : ∀ {xs : List α} {ys : List β}, Paired F xs ys → (∀ x ∈ xs, ∀ y, F x y → G x y) → Paired G xs ys
  | _, _, .nil, _ => .nil
  | _, _, .cons r t, h => .cons (h _ List.mem_cons_self _ r) (paired_imp t fun x hx => h x (List.mem_cons_of_mem _ hx))
/-- the tuples tracked at their addresses -/
def zo (g : Heap) (a : Addr) : Obj := (g.get? a).getD { cls := .none }
def putZ (g : Heap) : Hp → List Addr → List (V × V) → Hp
  | H, a :: as, p :: kvs => putZ g (upd H a (.frz (zo g a) (.tup [p.1, p.2]))) as kvs
  | H, _, _ => H
theorem putZ_off {g : Heap} {b : Addr} : ∀ (as : List Addr) (kvs : List (V × V)) (H : Hp), b ∉ as → putZ g H as kvs b = H b
  | [], _, _, _ => rfl
  | _ :: _, [], _, _ => rfl
  | a :: as, p :: kvs, H, h => by
    show putZ g (upd H a (.frz (zo g a) (.tup [p.1, p.2]))) as kvs b = H b
    rw [putZ_off as kvs _ (fun z => h (List.mem_cons_of_mem _ z)), upd_ne (fun z => h (by rw [z]; exact List.mem_cons_self))]
theorem putZ_at {g : Heap} : ∀ (as : List Addr) (kvs : List (V × V)) (H : Hp), as.length = kvs.length → as.Nodup → Paired (fun (t : Addr) (p : V × V) => putZ g H as kvs t = some (.frz (zo g t) (.tup [p.1, p.2]))) as kvs
  | [], [], _, _, _ => .nil
  | [], _ :: _, _, h, _ => by cases h
  | _ :: _, [], _, h, _ => by cases h
  | a :: as, p :: kvs, H, h, hn => by
    have hn' := List.nodup_cons.mp hn
    have ih := putZ_at (g := g) as kvs (upd H a (.frz (zo g a) (.tup [p.1, p.2]))) (Nat.succ.inj h) hn'.2
    refine .cons ?_ ih
    show putZ g (upd H a (.frz (zo g a) (.tup [p.1, p.2]))) as kvs a = some (.frz (zo g a) (.tup [p.1, p.2]))
    rw [putZ_off as kvs _ hn'.1, upd_same]
section
variable {X : Cx}
theorem zip_laid {pins : List (Addr × Obj)} {σ : L2.St} {H : Hp} {s : Shared} {h' : Heap} {S : Addr} {tk : Nat} {xs ys : List V} {us ws : List Value} {acc : Array Value} {c : Nat} {as : List Addr} (I : Inv X pins σ H s) (hz : min xs.length ys.length ≤ sizeLine) (rx : Vals xs us) (ry : Vals ys ws)
    (hSs : s.heap.objs.size ≤ S) (hk : ∀ b o, s.heap.get? b = some o → h'.get? b = some o) (hS : h'.get? S = some { cls := .type "list", dict := none, data := .seq acc c, slots := #[] }) (hl : as.length = min xs.length ys.length) (hG : ZG us.toArray ws.toArray S h' as) (hacc : acc.toList = as.map Value.ref) :
    ∃ H' : Hp, (∀ b o, H b = some o → H' b = some o) ∧ H S = none ∧ (∀ t ∈ as, H t = none) ∧ S ∉ as ∧ as.Nodup ∧ H' S = some (.lst (as.map V.ref)) ∧ Paired (fun (t : Addr) (q : V × V) => TupZ H' t [q.1, q.2]) as (xs.zip ys) ∧ Inv X pins σ H' { s with heap := h', toks := tk } := by
  have lx := rx.length
  have ly := ry.length
  have hSn : S ∉ as := fun z => Nat.lt_irrefl _ (hG.above _ z)
  have nd : as.Nodup := List.Pairwise.imp (fun {a b} (h : a < b) => Nat.ne_of_lt h) hG.rise
  have new : ∀ t ∈ as, H t = none := fun t ht => I.hok.fresh (Nat.le_trans hSs (Nat.le_of_lt (hG.above t ht)))
  have newS : H S = none := I.hok.fresh hSs
  have atP := putZ_at (g := h') as (xs.zip ys) (upd H S (.lst (as.map V.ref))) (by rw [List.length_zip]; exact hl) nd
  have zob : ∀ b ∈ as, ∃ x y, h'.get? b = some { cls := .type "tuple", data := .seq #[x, y] } ∧ zo h' b = { cls := .type "tuple", data := .seq #[x, y] } := fun b hb => by
    obtain ⟨j, hj⟩ := List.mem_iff_getElem?.mp hb
    obtain ⟨x, y, _, _, f3⟩ := hG.pairs j b hj
    have f3 : h'.get? b = some { cls := .type "tuple", data := .seq #[x, y] } := f3
    exact ⟨x, y, f3, by unfold zo; rw [f3]; rfl⟩
  have atZ := paired_imp atP (G := fun (t : Addr) (q : V × V) => TupZ (putZ h' (upd H S (.lst (as.map V.ref))) as (xs.zip ys)) t [q.1, q.2]) fun b hb q z => by
    obtain ⟨x, y, _, ez⟩ := zob b hb
    exact ⟨_, by rw [ez], z⟩
  have off : ∀ b, b ∉ as → b ≠ S → putZ h' (upd H S (.lst (as.map V.ref))) as (xs.zip ys) b = H b := fun b h1 h2 => by rw [putZ_off as _ _ h1, upd_ne h2]
  have low : ∀ b o, s.heap.get? b = some o → b ∉ as ∧ b ≠ S := fun b o e => ⟨fun z => absurd (Nat.lt_of_lt_of_le (Heap.lt_size e) hSs) (Nat.not_lt.mpr (Nat.le_of_lt (hG.above b z))), Nat.ne_of_lt (Nat.lt_of_lt_of_le (Heap.lt_size e) hSs)⟩
  have kp : ∀ b u, H b = some u → (putZ h' (upd H S (.lst (as.map V.ref))) as (xs.zip ys)) b = some u := fun b u e => by
    rw [off b (fun z => by rw [new b z] at e; cases e) (fun z => by rw [z, newS] at e; cases e)]
    exact e
  have eS : putZ h' (upd H S (.lst (as.map V.ref))) as (xs.zip ys) S = some (.lst (as.map V.ref)) := by rw [putZ_off as _ _ hSn, upd_same]
  refine ⟨putZ h' (upd H S (.lst (as.map V.ref))) as (xs.zip ys), kp, newS, new, hSn, nd, eS, atZ, ?_⟩
  refine I.call' (ch := []) rfl ⟨fun b o q _ _ _ => hk b o q, fun b o q _ _ _ => ⟨o.slots, hk b o q⟩, fun b o q n _ => ?_, fun b o q _ => ⟨o, hk b o q⟩, fun b xs q => kp b _ q, fun b o u q => kp b _ q, fun b ps q => ⟨#[], by rw [kp b _ q]; simp⟩⟩ (fun b u q => ?_) I.bare fun b z => by simp at z
  · obtain ⟨z1, z2⟩ := low b o q
    rw [off b z1 z2]
    exact n
  · by_cases hb : b ∈ as
    · obtain ⟨j, pk, e1, e2, e3⟩ := LiI.paired_ix atP hb
      rw [e3] at q
      cases q
      obtain ⟨x, y, f1, f2, f3⟩ := hG.pairs j b e1
      rw [List.getElem?_zip_eq_some] at e2
      obtain ⟨u, g1, g2⟩ := rx.get e2.1
      obtain ⟨u', g3, g4⟩ := ry.get e2.2
      have f1 : us[j]? = some x := by simpa using f1
      have f2 : ws[j]? = some y := by simpa using f2
      rw [f1] at g1
      rw [f2] at g3
      cases g1
      cases g3
      have f3 : h'.get? b = some { cls := .type "tuple", data := .seq #[x, y] } := f3
      have ez : zo h' b = { cls := .type "tuple", data := .seq #[x, y] } := by unfold zo; rw [f3]; rfl
      rw [ez]
      exact ⟨f3, by show 2 ≤ sizeLine; decide, [x, y], .cons g2 (.cons g4 .nil), ⟨_, f3, rfl, _, rfl⟩⟩
    · by_cases hb2 : b = S
      · rw [hb2] at q ⊢
        rw [eS] at q
        cases q
        refine ⟨by rw [List.length_map]; omega, acc.toList, c, by rw [hacc]; exact LiI.vals_refs as, ?_⟩
        rw [Array.toArray_toList]
        exact hS
      · rw [off b hb hb2] at q
        exact (I.hok b u q).stay (fun d v _ y => hk d v y) (fun d y => kp d _ y) fun d xs y => kp d _ y
def tListZip (K : PySem.W.Frag) (ta : TA) : TE := fun σ H Q => ta σ H fun vs H1 => ∃ (a b : Addr) (xs ys : List V), vs = [.ref a, .ref b] ∧ SqL K H1 a xs ∧ SqL K H1 b ys ∧
  ∀ (H' : Hp) (p : Addr) (ts : List Addr), (∀ b o, H1 b = some o → H' b = some o) → H1 p = none → (∀ t ∈ ts, H1 t = none) → p ∉ ts → ts.Nodup → H' p = some (.lst (ts.map V.ref)) → Paired (fun (t : Addr) (q : V × V) => TupZ H' t [q.1, q.2]) ts (xs.zip ys) → Q (.ref p) H'
theorem pe_listZip {e e2 : Expr} {ta : TA} {p p1 pos1 pos : Pos} (hc : X.calm = true) (hg : Gl X "list") (hm : X.mg "list" = none) (hg2 : Gl X "zip") (hm2 : X.mg "zip" = none) (ha : PA X [e, e2] ta)
    (hs : starEach [e, e2] X.env = (false, eval e X.env) :: starEach [e2] X.env := by rfl) (hpl : (backTo pos1 (starEach [e2] X.env)).any (·.1) = false := by rfl)
    (na : starEach [.Call (.Name "zip" p1) [e, e2] [] pos1] X.env = (false, eval (.Call (.Name "zip" p1) [e, e2] [] pos1) X.env) :: starEach [] X.env := by rfl) :
    PE X (.Call (.Name "list" p) [.Call (.Name "zip" p1) [e, e2] [] pos1] [] pos) (tListZip X.K ta) := by
  refine ⟨fun pins s σ H Q I h => ?_⟩
  refine wpAny_Call_Name_kw (ld_blt I hg hm PyProof.Rows.boot_list ?_)
  refine PyProof.Rows.callWith_type1 ?_ na rfl
  rw [na]
  show wpAny _ _ (spliced ((false, eval (.Call (.Name "zip" p1) [e, e2] [] pos1) X.env) :: backTo pos (starEach [] X.env))) _ _ s
  refine Calls.spliced_cons ?_
  refine Call_ (ld_blt I hg2 hm2 PyProof.Rows.boot_zip (PyProof.Rows.callWith_type1 (thn (ha.run pos1 pins s σ H _ I h) fun us s1 ⟨vs, H1, I1, r1, q1⟩ => ?_) hs hpl))
  obtain ⟨a, b, xs, ys, ex, hqx, hqy, q⟩ := q1
  subst ex
  cases r1 with
  | cons r rr =>
    cases rr with
    | cons r' rr =>
      cases rr
      cases r
      cases r'
      obtain ⟨its, rv, p1, z1⟩ := I1.list hqx
      obtain ⟨its2, rv2, p2, z2⟩ := I1.list hqy
      have la : a < s1.heap.objs.size := p1.lt
      have lb : b < s1.heap.objs.size := p2.lt
      have l1 := rv.length
      have l2 := rv2.length
      refine call_zip_2 p1.isList p2.isList fun h' hz hTI hTO h1 h2 hsz hk => ?_
      refine Calls.spliced_nil ?_
      have hn : min its.toArray.size its2.toArray.size ≤ sizeLine := by
        simp only [List.size_toArray]
        omega
      refine zl_call (s := { s1 with heap := h' }) (I1.ok.hd hc) (PySem.W.ktu_apart s1.heap.objs.size a b la lb) hTI h1 h2 (isList_at p1.isList fun o q => hk _ o q) (isList_at p2.isList fun o q => hk _ o q) hz hTO hn fun h2 tk acc c as hk2 hS hl hG hacc => ?_
      have hS' : s1.heap.objs.size ≤ h'.objs.size := by rw [hsz]; omega
      obtain ⟨H', k1, k2, k3, k4, k5, k6, k7, J⟩ := zip_laid (tk := tk) I1 (by omega) rv rv2 hS' (fun b o e => hk2 b o (Nat.ne_of_lt (Nat.lt_of_lt_of_le (Heap.lt_size e) (Nat.le_add_right _ _))) (Nat.ne_of_lt (Nat.lt_of_lt_of_le (Heap.lt_size e) (Nat.le_add_right _ _))) (Nat.ne_of_lt (Heap.lt_size e)) (Nat.ne_of_lt (Nat.lt_of_lt_of_le (Heap.lt_size e) (Nat.le_add_right _ _))) (hk b o e)) hS (by rw [hl]; simp; omega) hG hacc
      exact ⟨.ref _, H', J, rfl, q H' _ as k1 k2 k3 k4 k5 k6 k7⟩
end
def kLZip (fz : Bool) (ds : List D) (h : PH) : Out D := match ds with
  | [x, y] => (match getL h x, getL h y with
    | some xs, some ys => mkL fz (zipD xs ys) h
    | _, _ => .stuck)
  | _ => .stuck
def eLZip (fz : Bool) (a : AM) (ρ : Rho) (h : PH) : Out D := (a ρ h).bind (kLZip fz)
section
variable {K : PySem.W.Frag} {mg : Str → Option Value} {E : XK}
theorem reps_zip {S : Sx} {H : Hp} : ∀ {xs ys : List D} {vs ws : List V} {ts : List Addr}, Reps K mg S H xs vs → Reps K mg S H ys ws → Paired (fun (t : Addr) (q : V × V) => TupZ H t [q.1, q.2]) ts (vs.zip ws) → Reps K mg S H (zipD xs ys) (ts.map V.ref)
  | [], ys, vs, ws, ts, r1, r2, pr => by
    have e : vs = [] := r1
    subst e
    rw [List.zip_nil_left] at pr
    cases pr
    show _ = _
    rfl
  | x :: xs, [], vs, ws, ts, r1, r2, pr => by
    have e : ws = [] := r2
    subst e
    rw [List.zip_nil_right] at pr
    cases pr
    show _ = _
    rfl
  | x :: xs, y :: ys, vs, ws, ts, r1, r2, pr => by
    obtain ⟨v, vs', rfl, rv, r1⟩ := r1
    obtain ⟨w, ws', rfl, rw', r2⟩ := r2
    rw [List.zip_cons_cons] at pr
    cases pr with
    | cons hp pr =>
      rename_i t ts
      exact ⟨_, _, rfl, ⟨t, [v, w], rfl, hp, v, [w], rfl, rv, w, [], rfl, rw', rfl⟩, reps_zip r1 r2 pr⟩
theorem re_listZip (fz : Bool) {X : Cx} {E : XK} {e e2 : Expr} {mas : AM} {p p1 pos1 pos : Pos} (hc : X.calm = true) (hg : Gl X "list") (hm : X.mg "list" = none) (hg2 : Gl X "zip") (hm2 : X.mg "zip" = none) (ha : RA X E [e, e2] mas)
    (hs : starEach [e, e2] X.env = (false, eval e X.env) :: starEach [e2] X.env := by rfl) (hpl : (backTo pos1 (starEach [e2] X.env)).any (·.1) = false := by rfl)
    (na : starEach [.Call (.Name "zip" p1) [e, e2] [] pos1] X.env = (false, eval (.Call (.Name "zip" p1) [e, e2] [] pos1) X.env) :: starEach [] X.env := by rfl) :
    RE X E (.Call (.Name "list" p) [.Call (.Name "zip" p1) [e, e2] [] pos1] [] pos) (eLZip fz mas) :=
  PE.weak (pe_listZip hc hg hm hg2 hm2 ha hs hpl na) fun σ H Q ⟨S, ρ, h, sim, env, q⟩ => tG_seq sim env q fun x S1 H1 h1 dx e1 s1 r1 env1 q1 => by
    unfold kLZip at q1
    split at q1
    · rename_i d1 d2
      obtain ⟨u, w, rfl, ru, rw'⟩ := r1.two_inv
      split at q1
      · rename_i xs ys g1 g2
        obtain ⟨a, vs, rfl, t1, rs1⟩ := getL_ok s1 ru g1
        obtain ⟨b, ws, rfl, t2, rs2⟩ := getL_ok s1 rw' g2
        refine ⟨a, b, vs, ws, rfl, t1, t2, fun H' p ts k n1 n2 n3 n4 n5 n6 => ?_⟩
        have k2 : ∀ c o, H1 c = some o → (fun c => if c = p then none else H' c) c = some o := fun c o hc => by
          show (if c = p then none else H' c) = some o
          rw [if_neg (fun z => by rw [z, n1] at hc; cases hc)]
          exact k c o hc
        have s2 := s1.grow k2
        have r2 := reps_zip (Reps.mono s1 (Ext.grow k2) _ _ rs1) (Reps.mono s1 (Ext.grow k2) _ _ rs2) (paired_imp n6 fun t ht q hq => hq.at fun o z => by
          show (if t = p then none else H' t) = some o
          rw [if_neg (show ¬ t = p from fun z => n3 (by rw [← z]; exact ht))]
          exact z)
        have fin := mkL_ok (fz := fz) s2 r2 (Post.mono s2 (Ext.grow k2) q1) (a := p) (by show (if p = p then none else H' p) = none; rw [if_pos rfl])
        have eH : upd (fun c => if c = p then none else H' c) p (.lst (ts.map V.ref)) = H' := by
          funext c
          by_cases z : c = p
          · rw [z, upd_same, n5]
          · rw [upd_ne z, if_neg z]
        rw [eH] at fin
        exact fin
      · exact q1.elim
    · exact q1.elim
end
/-! ### the steps -/
section
variable {a : AM} {ρ : Rho} {h : PH}
@[simp] theorem eLZip_s {fz : Bool} : eLZip fz a ρ h = (a ρ h).bind (kLZip fz) := (rfl)
@[simp] theorem kLZip_l {fz : Bool} {t u : Tg} {xs ys : List D} : kLZip fz [.lst t xs, .lst u ys] h = mkL fz (zipD xs ys) h := (rfl)
end
end R
namespace R
open PySem PySem.Spec PyProof.Rows L2
/-! ### t.count(x), a tuple's, by == of data -/
def rTCountD (K : PySem.W.Frag) : V → List V → Hp → VK → Prop := fun x xs H Q => ∃ (a : Addr) (y : V) (d : PyData) (ds : List PyData), x = V.ref a ∧ xs = [y] ∧ Dp K H (V.ref a) (.tuple ds) ∧ Dp K H y d ∧ SeqAt.shaped (.tuple ds) = true ∧ PdOk 8 d ∧ Q (.int ((ds.countP fun z => PyData.eqv z d) : Nat)) H
theorem mt_tcountD {X : Cx} (hu : X.A.units + 64 < cLine) : MtR X "tuple.count" (rTCountD X.K) := by
  intro pins s σ H x xs v us Q I rx rxs ⟨a, y, d, ds, ex, exs, hl, hy, sl, sd, q⟩
  subst ex exs
  cases rx
  obtain ⟨uy, rfl, ry⟩ := rxs.one
  obtain ⟨bs, r1⟩ := Dp.reads I d y uy hy ry
  have lay : PyData.canLayAll0 ds = true := SeqAt.canLay_of_shaped sl
  have room : X.A.units + 1 + min (PyData.depthAll ds) d.depth < cLine := by have := sd.2; omega
  cases hl with
  | tup hs ha =>
    obtain ⟨its, rv, ⟨⟨cls, dd, data, sls⟩, ho, hc, n, hdt⟩, hlen⟩ := I.tuple hs
    simp only at hc hdt
    subst hc hdt
    obtain ⟨as, h4⟩ := Dp.readsAll I ds _ its ha rv
    have em : its.map (SeqAt.readOf s.heap) = ds := SeqAt.readsAll_map ds its as lay h4
    have ec : its.toArray.toList.countP (fun u => PyData.eqv (SeqAt.readOf s.heap u) d) = ds.countP fun z => PyData.eqv z d := by
      rw [← em, List.countP_map]
      rfl
    refine call_meets PySem.F.slot_tuple_count ⟨_, ho, rfl⟩ PySem.F.entry_tuple_count (PySem.F.args_tuple_count_2 _ _) (SeqAt.tuple_countAt a its.toArray n dd sls uy fun u => PyData.eqv (SeqAt.readOf s.heap u) d) ⟨ho, SeqAt.items_eqAt (vs := its.toArray) (show ReadsAll s.heap its.toArray.toList ds as from h4) r1 lay sd.1 room, ?_⟩
    rw [ec]
    exact ⟨.int ((ds.countP fun z => PyData.eqv z d) : Nat), H, I.tok _, ⟨_, rfl⟩, q⟩
def fTCount (d : D) (as : List D) (h : PH) : Out D := match as with
  | [y] => (match pdF h 64 d, pdF h 8 y with
    | some (.tuple ps), some p => .ok (.int ((ps.countP fun z => PyData.eqv z p) : Nat)) h
    | _, _ => .stuck)
  | _ => .stuck
section
variable {K : PySem.W.Frag} {mg : Str → Option Value} {E : XK}
theorem ref_of_tuple {H : Hp} {x : V} {ds : List PyData} (r : Dp K H x (.tuple ds)) : ∃ a, x = V.ref a := by
  cases r
  exact ⟨_, rfl⟩
theorem ms_tcount : MtS K mg E (rTCountD K) fTCount := fun S H h x xs d ds Q sim r rs q => by
  unfold fTCount at q
  split at q
  · obtain ⟨y, rfl, ry⟩ := rs.one_inv
    split at q
    · rename_i ps p e1 e2
      obtain ⟨h1, h2⟩ := pd_ok sim 64 _ _ _ e1 r
      obtain ⟨h3, h4⟩ := pd_ok sim 8 _ _ _ e2 ry
      obtain ⟨a, rfl⟩ := ref_of_tuple h1
      exact ⟨a, y, p, ps, rfl, rfl, h1, h3, pd_shaped h2, h4, Post.get (b := V.int _) q sim rfl⟩
    · exact q.elim
  · exact q.elim
end
/-! ### sorted of tuples of ints, of one length, any number of them -/
abbrev ltC (k : V → List Int) (B : Int) (x y : V) : Bool := decide (TS.code B (k x) < TS.code B (k y))
theorem swo_code {α : Type} (f : α → Int) : SrtO.Swo fun x y => decide (f x < f y) :=
  ⟨fun x y h => decide_eq_false (by have := of_decide_eq_true h; omega), fun x y z h1 h2 => decide_eq_false (by have := of_decide_eq_false h1; have := of_decide_eq_false h2; omega)⟩
def rSortedS (K : PySem.W.Frag) : List V → Hp → VK → Prop := fun vs H Q => ∃ (a : Addr) (xs : List V) (k : V → List Int) (d : Nat) (B : Int), vs = [V.ref a] ∧ SqL K H a xs ∧ 1 ≤ d ∧ (∀ x ∈ xs, ∃ t, x = V.ref t ∧ SqT K H t ((k x).map V.int) ∧ (k x).length = d ∧ TS.Bd B (k x)) ∧
  ∀ ys p, SrtO.Srtd (ltC k B) ys → SrtO.Stb (ltC k B) ys xs → H p = none → Q (.ref p) (upd H p (.lst ys))
section
variable {prog : Program} {w : World} {A : Around} {s : Shared}
theorem tups_sortable {a : Addr} {vs : List Value} {k : Value → List Int} {d : Nat} {B : Int} (hd : 1 ≤ d) (h2 : 2 ≤ vs.length) (hp : ∀ v ∈ vs, TS.TupInts s.heap v (k v) ∧ (k v).length = d ∧ TS.Bd B (k v)) (ha : ∀ o, s.heap.get? a = some o → o.cls ≠ .type "tuple") :
    SrtO.SortableO prog w A s a vs fun v u => decide (TS.code B (k v) < TS.code B (k u)) := by
  intro h' keep
  have hp' : ∀ v ∈ vs, TS.TupInts h' v (k v) ∧ (k v).length = d ∧ TS.Bd B (k v) := fun v hm => ⟨(hp v hm).1.keeps fun b o e c => keep b o (fun z => ha o (by rw [← z]; exact e) c) e, (hp v hm).2⟩
  obtain ⟨fs, h1, hl, h3⟩ := TS.firsts_of hd vs fun v hm => ⟨k v, hp' v hm⟩
  refine ⟨_, fun Q E hq => PySem.W.kat_kind (s := { s with heap := h' }) (T := Value.type "int") h1 (by omega) (fun f hf => ?_) rfl hq, ?_⟩
  · obtain ⟨n, t, rfl⟩ := h3 f hf
    exact PySem.W.Looks.of_pure rfl
  · intro p q hm hm'
    obtain ⟨tp, lp, bp⟩ := hp' _ hm
    obtain ⟨tq, lq, bq⟩ := hp' _ hm'
    obtain ⟨b, xs, e1, ⟨o, ho, hc, n, hdt⟩, i⟩ := tp
    obtain ⟨b', ys, e2, ⟨o', ho', hc', n', hdt'⟩, i'⟩ := tq
    show wpAny (model prog w) A (PyProof.Rows.keyLt' _ p.1 q.1) (fun r s' => s' = { s with heap := h' } ∧ r = decide (TS.code B (k p.1) < TS.code B (k q.1))) (fun _ _ => False) { s with heap := h' }
    generalize k p.1 = ns at i lp bp ⊢
    generalize k q.1 = ms at i' lq bq ⊢
    rw [e1, e2]
    refine PySem.W.kat_lt ho hdt ho' hdt' ?_
    have sz : decide (xs.size < ys.size) = false := by
      have l1 := i.length
      have l2 := i'.length
      rw [Array.length_toList] at l1 l2
      exact decide_eq_false (by omega)
    rw [sz]
    exact TS.lex_ints 0 i i' (by omega) bp bq ⟨rfl, rfl⟩
end
theorem cr_sortedS {X : Cx} : CallR X (.builtin "sorted") (rSortedS X.K) := by
  intro pins s σ H vs us Q I r h
  obtain ⟨a, xs, k, d, B, rfl, hs, hd, hx, q⟩ := h
  obtain ⟨its, rv, hl, hz⟩ := I.list hs
  obtain ⟨u, rfl, ru⟩ := vals1 r
  obtain rfl : u = Value.ref a := ru
  obtain ⟨e1, e2⟩ := refs_back rv fun x m => by
    obtain ⟨t, e, _⟩ := hx x m
    exact ⟨t, e⟩
  have raw : ∀ v ∈ its, TS.TupInts s.heap v (k (backV v)) ∧ (k (backV v)).length = d ∧ TS.Bd B (k (backV v)) := fun v hv => by
    obtain ⟨t, rfl⟩ := e2 v hv
    have hm : V.ref t ∈ xs := by rw [e1]; exact List.mem_map.mpr ⟨_, hv, rfl⟩
    obtain ⟨t', e, ht, hd, hb⟩ := hx _ hm
    cases e
    exact ⟨tupI_raw I ht, hd, hb⟩
  refine SrtO.sorted_ord (ltv := fun v u => decide (TS.code B (k (backV v)) < TS.code B (k (backV u)))) (swo_code _) hl.isList (by rw [← rv.length]; exact hz) (fun h2 h₁ a' e' kk => ?_) fun out h1 h2 => ?_
  · refine tups_sortable (s := { s with heap := h₁ }) (k := fun v => k (backV v)) hd h2 (fun v hm => ⟨(raw v hm).1.keeps fun b o e _ => (kk b o e).2, (raw v hm).2⟩) fun o e => ?_
    have e' : some o = some (PyProof.Rows.seqObj "list" its.toArray 0) := e.symm.trans e'
    cases e'
    intro c
    exact absurd (Value.type.inj c) (by decide)
  · have h3 : ∀ u ∈ out, ∃ a, u = Value.ref a := fun u hu => e2 u (h2.perm.mem_iff.mp hu)
    have hb : SrtO.Stb (ltC k B) (out.map backV) xs := by
      rw [e1]
      exact SrtO.Stb.map (swo_code fun x => TS.code B (k x)) backV h2
    obtain ⟨ep, he'⟩ := PyProof.Rows.sortedAll_at s.heap its out.toArray
    refine ⟨.ref _, upd H (s.heap.objs.size + 1) (.lst (out.map backV)), I.laid (t' := s.toks) (fun _ _ => PyProof.Rows.sortedAll_old) (Nat.le_succ _) ⟨?_, out, ep, vals_back h3, he'⟩, rfl, q _ _ (SrtO.srtd_map h1) hb (I.hok.fresh (Nat.le_succ _))⟩
    rw [hb.len]
    exact hz

/-! ### the data: lists of tuples of ints, sorted -/
def tupI (s : List Int) : D := .tup (s.map D.int)
def asInts : D → Option (List Int)
  | .tup ds => optAll asInt ds
  | _ => none
theorem asIntL_eq : ∀ {ds : List D} {ns : List Int}, optAll asInt ds = some ns → ds = ns.map D.int
  | [], ns, e => by cases e; rfl
  | d :: ds, ns, e => by
    obtain ⟨b, cs, rfl, e1, e2⟩ := optAll_cons e
    rw [asIntL_eq e2]
    cases d with
    | int i => cases e1; rfl
    | _ => simp at e1
theorem asInts_eq : ∀ {ds : List D} {ns : List (List Int)}, optAll asInts ds = some ns → ds = ns.map tupI
  | [], ns, e => by cases e; rfl
  | d :: ds, ns, e => by
    obtain ⟨b, cs, rfl, e1, e2⟩ := optAll_cons e
    rw [asInts_eq e2]
    cases d with
    | tup es => rw [List.map_cons, asIntL_eq (ds := es) e1]; rfl
    | _ => cases e1
def okS (ns : List (List Int)) : Bool := match ns with
  | [] => true
  | s :: _ => decide (1 ≤ s.length) && ns.all fun r => decide (r.length = s.length) && r.all fun x => decide (0 ≤ x)
def bdS (ns : List (List Int)) : Int := 1 + (ns.map List.sum).sum
def leS' (a b : List Int) : Bool := !HT.lexLt b a
def sortS (ns : List (List Int)) : List (List Int) := ns.mergeSort leS'
theorem leL_total : ∀ (a b : List Int), (leS' a b || leS' b a) = true
  | [], b => by
    cases b with
    | nil => rfl
    | cons y b => rfl
  | x :: a, [] => rfl
  | x :: a, y :: b => by
    have ih := leL_total a b
    unfold leS' at ih ⊢
    rw [HT.lexLt_cons, HT.lexLt_cons]
    by_cases e : x = y
    · rw [if_pos e.symm, if_pos e]
      exact ih
    · rw [if_neg (Ne.symm e), if_neg e]
      by_cases c : x < y
      · simp [c]
        omega
      · simp [c]
theorem lexLt_anti : ∀ (a b : List Int), HT.lexLt a b = false → HT.lexLt b a = false → a = b
  | [], [], _, _ => rfl
  | [], y :: b, h, _ => by rw [HT.lexLt_nil_cons] at h; cases h
  | x :: a, [], _, h => by rw [HT.lexLt_nil_cons] at h; cases h
  | x :: a, y :: b, h1, h2 => by
    rw [HT.lexLt_cons] at h1 h2
    by_cases e : x = y
    · rw [if_pos e] at h1
      rw [if_pos e.symm] at h2
      rw [e, lexLt_anti a b h1 h2]
    · rw [if_neg e] at h1
      rw [if_neg (Ne.symm e)] at h2
      have h1 := of_decide_eq_false h1
      have h2 := of_decide_eq_false h2
      omega
theorem lexLt_trans' : ∀ (a b c : List Int), HT.lexLt b a = false → HT.lexLt c b = false → HT.lexLt c a = false
  | [], b, c, _, _ => by
    cases c with
    | nil => rfl
    | cons z c => exact HT.lexLt_cons_nil z c
  | x :: a, [], c, h, _ => by rw [HT.lexLt_nil_cons] at h; cases h
  | x :: a, y :: b, [], _, h => by rw [HT.lexLt_nil_cons] at h; cases h
  | x :: a, y :: b, z :: c, h1, h2 => by
    rw [HT.lexLt_cons] at h1 h2 ⊢
    by_cases e1 : y = x
    · rw [if_pos e1] at h1
      by_cases e2 : z = y
      · rw [if_pos e2] at h2
        rw [if_pos (e2.trans e1)]
        exact lexLt_trans' a b c h1 h2
      · rw [if_neg e2] at h2
        have := of_decide_eq_false h2
        rw [if_neg (fun q => e2 (q.trans e1.symm))]
        exact decide_eq_false (by omega)
    · rw [if_neg e1] at h1
      have := of_decide_eq_false h1
      by_cases e2 : z = y
      · rw [if_neg (fun q => e1 (e2.symm.trans q))]
        exact decide_eq_false (by omega)
      · rw [if_neg e2] at h2
        have := of_decide_eq_false h2
        rw [if_neg (by omega)]
        exact decide_eq_false (by omega)
theorem sortS_perm (ns : List (List Int)) : (sortS ns).Perm ns := List.mergeSort_perm ns _
theorem sortS_sorted (ns : List (List Int)) : (sortS ns).Pairwise fun a b => leS' a b = true :=
  List.pairwise_mergeSort (fun a b c h1 h2 => by
    unfold leS' at *
    rw [Bool.not_eq_true'] at *
    exact lexLt_trans' a b c h1 h2) leL_total ns
theorem sortS_eq {ns ms : List (List Int)} (p : ms.Perm ns) (s : ms.Pairwise fun a b => leS' a b = true) : ms = sortS ns :=
  List.Perm.eq_of_pairwise (le := fun a b => leS' a b = true) (fun a b _ _ h1 h2 => by
    unfold leS' at h1 h2
    rw [Bool.not_eq_true'] at h1 h2
    exact lexLt_anti a b h2 h1) s (sortS_sorted ns) (p.trans (sortS_perm ns).symm)
theorem code_lex {B : Int} : ∀ {a b : List Int}, a.length = b.length → TS.Bd B a → TS.Bd B b → decide (TS.code B a < TS.code B b) = HT.lexLt a b
  | [], [], _, _, _ => by rw [decide_eq_false (Int.lt_irrefl _)]; rfl
  | x :: a, y :: b, hl, ha, hb => by
    have hl' : a.length = b.length := by simpa using hl
    have ih := code_lex hl' ha.tail hb.tail
    rw [HT.lexLt_cons]
    by_cases e : x = y
    · subst e
      rw [if_pos rfl, ← ih]
      exact decide_eq_decide.mpr (TS.code_same hl')
    · rw [if_neg e]
      refine decide_eq_decide.mpr ⟨fun z => ?_, fun z => TS.code_lt hl' ha.tail hb.tail z⟩
      rcases Int.lt_trichotomy x y with c | c | c
      · exact c
      · exact absurd c e
      · have := TS.code_lt hl'.symm hb.tail ha.tail c
        omega
theorem mem_sum_le : ∀ {l : List Int}, (∀ x ∈ l, 0 ≤ x) → (0 ≤ l.sum ∧ ∀ x ∈ l, x ≤ l.sum)
  | [], _ => ⟨Int.le_refl _, fun x hx => by cases hx⟩
  | y :: l, h => by
    obtain ⟨h1, h2⟩ := mem_sum_le (l := l) fun x hx => h x (List.mem_cons_of_mem _ hx)
    have h0 := h y List.mem_cons_self
    rw [List.sum_cons]
    refine ⟨by omega, fun x hx => ?_⟩
    rcases List.mem_cons.mp hx with rfl | hx
    · omega
    · have := h2 x hx
      omega
theorem okS_bd {ns : List (List Int)} (h : okS ns = true) : ∃ d, 1 ≤ d ∧ ∀ s ∈ ns, s.length = d ∧ TS.Bd (bdS ns) s := by
  cases ns with
  | nil => exact ⟨1, Nat.le_refl _, fun s hs => by cases hs⟩
  | cons s0 ns =>
    unfold okS at h
    rw [Bool.and_eq_true, decide_eq_true_eq, List.all_eq_true] at h
    obtain ⟨h1, h2⟩ := h
    refine ⟨s0.length, h1, fun s hs => ?_⟩
    have z := h2 s hs
    rw [Bool.and_eq_true, decide_eq_true_eq, List.all_eq_true] at z
    refine ⟨z.1, fun x hx => ?_⟩
    have nn : ∀ r ∈ s0 :: ns, ∀ x ∈ r, 0 ≤ x := fun r hr x hx => by
      have := h2 r hr
      rw [Bool.and_eq_true, List.all_eq_true] at this
      exact of_decide_eq_true (this.2 x hx)
    have n0 := nn s hs x hx
    have b1 := (mem_sum_le (nn s hs)).2 x hx
    have b2 := (mem_sum_le (l := (s0 :: ns).map List.sum) fun y hy => by
      obtain ⟨r, hr, rfl⟩ := List.mem_map.mp hy
      exact (mem_sum_le (nn r hr)).1).2 s.sum (List.mem_map.mpr ⟨s, hs, rfl⟩)
    unfold bdS
    omega
def vInt : V → Int
  | .int i => i
  | _ => 0
/-- the numbers that stand at a value -/
def vInts (H : Hp) : V → List Int
  | .ref t => match H t with
    | some (.frz _ (.tup vs)) => vs.map vInt
    | _ => []
  | _ => []
section
variable {K : PySem.W.Frag} {mg : Str → Option Value} {E : XK} {S : Sx} {H : Hp} {v : V}
theorem ints_vals : ∀ {s : List Int} {vs : List V}, Reps K mg S H (s.map D.int) vs → vs = s.map V.int
  | [], vs, r => r
  | i :: s, vs, r => by
    obtain ⟨x, r1, rfl, rx, rr⟩ := r
    have rx : x = .int i := rx
    rw [rx, ints_vals rr]
    rfl
theorem tupI_ok {s : List Int} (r : Rep K mg S H (tupI s) v) : ∃ t, v = .ref t ∧ TupZ H t (s.map V.int) ∧ vInts H v = s := by
  obtain ⟨t, vs, rfl, ⟨o, d, e⟩, rs⟩ := r
  have ev := ints_vals rs
  subst ev
  refine ⟨t, rfl, ⟨o, d, e⟩, ?_⟩
  simp only [vInts, e, List.map_map]
  conv => rhs; rw [← List.map_id s]
  exact List.map_congr_left fun _ _ => rfl
theorem tupsI_ok : ∀ {ns : List (List Int)} {vs : List V}, Reps K mg S H (ns.map tupI) vs → (∀ x ∈ vs, ∃ t, x = .ref t ∧ TupZ H t ((vInts H x).map V.int)) ∧ vs.map (vInts H) = ns
  | [], vs, r => by
    have r : vs = [] := r
    subst r
    exact ⟨fun x hx => (by cases hx), rfl⟩
  | s :: ns, vs, r => by
    obtain ⟨x, r1, rfl, rx, rr⟩ := r
    obtain ⟨t, e1, e2, e3⟩ := tupI_ok rx
    obtain ⟨h1, h2⟩ := tupsI_ok rr
    refine ⟨fun y hy => ?_, by rw [List.map_cons, e3, h2]⟩
    rcases List.mem_cons.mp hy with rfl | hy
    · exact ⟨t, e1, by rw [e3]; exact e2⟩
    · exact h1 y hy
def fSortS (fz : Bool) (ds : List D) (h : PH) : Out D := match ds with
  | [d] => match (getL h d).bind (optAll asInts) with
    | some ns => if okS ns then mkL fz ((sortS ns).map tupI) h else .stuck
    | none => .stuck
  | _ => .stuck
theorem perm_map {α : Type} (f : α → D) (g : D → α) (hg : ∀ x, g (f x) = x) {ns : List α} {es : List D} (p : es.Perm (ns.map f)) : ∃ ms : List α, es = ms.map f ∧ ms.Perm ns := by
  refine ⟨es.map g, ?_, ?_⟩
  · rw [List.map_map]
    conv => lhs; rw [← List.map_id es]
    refine List.map_congr_left fun d hd => ?_
    obtain ⟨x, _, rfl⟩ := List.mem_map.mp (p.mem_iff.mp hd)
    show f x = f (g (f x))
    rw [hg]
  · have q := p.map g
    rw [List.map_map] at q
    have e : ns.map (g ∘ f) = ns := by
      conv => rhs; rw [← List.map_id ns]
      exact List.map_congr_left fun x _ => hg x
    rw [e] at q
    exact q
theorem asInts_tupI (s : List Int) : asInts (tupI s) = some s := by
  have := optAll_map (f := asInt) (D.int : Int → D) (id : Int → Int) s fun x _ => rfl
  simpa [asInts, tupI] using this
theorem cs_sortS {fz : Bool} : CallS K mg E (rSortedS K) (fSortS fz) := fun S H h xs ds Q sim r q => by
  unfold fSortS at q
  split at q
  · obtain ⟨x, rfl, rx⟩ := r.one_inv
    split at q
    · rename_i ns e
      split at q
      · rename_i ok
        obtain ⟨ds, e1, e2⟩ := Option.bind_eq_some_iff.mp e
        obtain ⟨a, vs, rfl, t, rs⟩ := getL_ok sim rx e1
        have e3 := asInts_eq e2
        subst e3
        obtain ⟨h1, h2⟩ := tupsI_ok rs
        obtain ⟨d, hd, hb⟩ := okS_bd ok
        have mem : ∀ x ∈ vs, vInts H x ∈ ns := fun x hx => by rw [← h2]; exact List.mem_map.mpr ⟨x, hx, rfl⟩
        refine ⟨a, vs, vInts H, d, bdS ns, rfl, t, hd, fun x hx => ?_, fun ys p hs hbb np => ?_⟩
        · obtain ⟨u, z1, z2⟩ := h1 x hx
          exact ⟨u, z1, z2.sq, hb _ (mem x hx)⟩
        · obtain ⟨es, pe, re⟩ := rs.perm hbb.perm
          obtain ⟨ms, rfl, pm⟩ := perm_map tupI (fun d => (asInts d).getD []) (fun s => by rw [asInts_tupI]; rfl) pe
          obtain ⟨h3, h4⟩ := tupsI_ok re
          have e8 : ms = sortS ns := sortS_eq pm (by
            rw [← h4, List.pairwise_map]
            have mem' : ∀ y ∈ ys, vInts H y ∈ ns := fun y hy => mem y (hbb.perm.mem_iff.mp hy)
            refine List.Pairwise.imp_of_mem (fun {x y} hx hy hxy => ?_) hs
            obtain ⟨l1, b1⟩ := hb _ (mem' x hx)
            obtain ⟨l2, b2⟩ := hb _ (mem' y hy)
            unfold leS'
            rw [← code_lex (by omega) b2 b1]
            rw [show decide (TS.code (bdS ns) (vInts H y) < TS.code (bdS ns) (vInts H x)) = false from hxy]
            rfl)
          rw [e8] at re
          exact mkL_ok sim re q np
      · exact q.elim
    · exact q.elim
  · exact q.elim
end
/-! ### a def of which nothing is told -/
theorem rs_stuck {X : Cx} {E : XK} {st : List Stmt} : RSs X E st (fun _ _ => Out.stuck) := ⟨fun pins s σ H D I h => by
  obtain ⟨S, ρ, hh, sim, env, q⟩ := h
  exact q.elim⟩
end R
namespace L2
open PySem PySem.Spec PyProof.Rows
/-! ### sets of tuples that are all different, up to 128 of them: the table has up to 512 places -/
def memB (x : Nat) : List Nat → Bool
  | [] => false
  | y :: l => match Nat.beq x y with
    | true => true
    | false => memB x l
theorem memB_ok {x : Nat} : ∀ {l : List Nat}, memB x l = true → x ∈ l
  | [], h => by cases h
  | y :: l, h => by
    unfold memB at h
    split at h
    · rename_i e
      rw [Nat.eq_of_beq_eq_true e]
      exact List.mem_cons_self
    · exact List.mem_cons_of_mem _ (memB_ok h)
def orb (m : Nat) : Nat → Nat → List Nat
  | 0, _ => []
  | n + 1, x => x :: orb m n ((x * 5 + 1) % (m + 1))
theorem orb_at {m x : Nat} : ∀ (n a : Nat), x ∈ orb m n (lcgN m a) → ∃ b, b < a + n ∧ lcgN m b = x
  | 0, a, h => by cases h
  | n + 1, a, h => by
    rcases List.mem_cons.mp h with e | h
    · exact ⟨a, by omega, e.symm⟩
    · obtain ⟨b, hb, e⟩ := orb_at n (a + 1) h
      exact ⟨b, by omega, e⟩
def allB (l : List Nat) : Nat → Bool
  | 0 => true
  | n + 1 => match memB n l with
    | true => allB l n
    | false => false
theorem allB_ok {l : List Nat} : ∀ n, allB l n = true → ∀ j, j < n → j ∈ l
  | 0, _, j, hj => absurd hj (Nat.not_lt_zero _)
  | n + 1, h, j, hj => by
    unfold allB at h
    split at h
    · rename_i e
      by_cases c : j = n
      · rw [c]; exact memB_ok e
      · exact allB_ok n h j (by omega)
    · cases h
theorem orb511 : allB (orb 511 512 0) 512 = true := by decide +kernel
theorem round511 : lcgN 511 512 = 0 := by decide +kernel
def MaskW (m : Nat) : Prop := MaskOk m ∨ m = 511
theorem MaskW.odd {m : Nat} (h : MaskW m) : m % 2 = 1 := by
  rcases h with h | rfl
  · exact mask_odd h
  · rfl
theorem MaskW.le {m : Nat} (h : MaskW m) : m ≤ 511 := by
  rcases h with (e | e | e) | e <;> omega
theorem meetW {m : Nat} (hm : MaskW m) (h : Int) {j : Nat} (hj : j ≤ m) : ∃ n, n ≤ m + 12 ∧ runI m (SetTable.bits h) n = j := by
  rcases hm with hm | rfl
  · exact run_meets hm h hj
  · have all : ∀ x, x ≤ 511 → ∃ b, b ≤ 511 ∧ lcgN 511 b = x := fun x hx => by
      obtain ⟨b, hb, e⟩ := orb_at (m := 511) 512 0 (allB_ok 512 orb511 x (by omega))
      exact ⟨b, by omega, e⟩
    have per : ∀ k, lcgN 511 (512 + k) = lcgN 511 k := by
      intro k
      induction k with
      | zero => exact round511
      | succ k ih =>
        show (lcgN 511 (512 + k) * 5 + 1) % 512 = (lcgN 511 k * 5 + 1) % 512
        rw [ih]
    obtain ⟨a, ha, ea⟩ := all _ (runI_le 511 (SetTable.bits h) 12)
    obtain ⟨b, hb, eb⟩ := all j hj
    by_cases c : b < a
    · refine ⟨12 + (b + 512 - a), by omega, ?_⟩
      rw [runI_tail (bits_lt h), ← ea, lcgN_add, show a + (b + 512 - a) = 512 + b by omega, per, eb]
    · refine ⟨12 + (b - a), by omega, ?_⟩
      rw [runI_tail (bits_lt h), ← ea, lcgN_add, show a + (b - a) = b by omega, eb]
theorem slotW {m : Nat} (hm : MaskW m) (h : Int) {j : Nat} (hj : j ≤ m) : ∃ k, k < 10 * SetTable.turns m ∧ way m h k = j := by
  obtain ⟨n, hn, e⟩ := meetW hm h hj
  obtain ⟨k, hk, e2⟩ := run_nth m (SetTable.bits h) n
  refine ⟨k, by unfold SetTable.turns; omega, ?_⟩
  show SetTable.Probe.j _ = j
  rw [e2]
  exact e
theorem wayW_le {m : Nat} {h : Int} {k : Nat} : way m h k ≤ m := by
  have i0 : SetTable.bits h % (m + 1) ≤ m := by
    have := Nat.mod_lt (SetTable.bits h) (show 0 < m + 1 by omega)
    omega
  have r0 := runEnd_bd i0
  have := nth_in (m := m) k (runAt m (SetTable.bits h % (m + 1)) (SetTable.bits h)) (by unfold runAt; dsimp only; omega)
  unfold way
  omega
/-- a table, its rows in some order -/
structure TabW (t : SetTable) (n : Nat) : Prop where
  ris : Ris t.place.toList
  dm : t.dummies = #[]
  sz : t.place.size = n
  mok : MaskW t.mask
theorem TabW.first {t : SetTable} {n : Nat} (T : TabW t n) (hl : n ≤ t.mask) (h : Int) :
    ∃ K, K < 10 * SetTable.turns t.mask ∧ way t.mask h K ∉ t.place.toList ∧ ∀ k, k < K → way t.mask h k ∈ t.place.toList := by
  obtain ⟨j, hj, hn⟩ := st_missing t.place.toList (t.mask + 1) (by rw [Array.length_toList, T.sz]; omega)
  obtain ⟨k, hk, rfl⟩ := slotW T.mok h (j := j) (by omega)
  obtain ⟨K, h1, h2, h3⟩ := st_least (p := fun i => way t.mask h i ∉ t.place.toList) k hn
  exact ⟨K, by omega, h2, fun i hi => Classical.byContradiction fun c => h3 i hi c⟩
theorem TabW.put {t : SetTable} {n : Nat} (T : TabW t n) {j : Nat} (hj : j ∉ t.place.toList) :
    (t.put j).2 = SetTable.below t.place j ∧ TabW (t.put j).1 (n + 1) ∧ (t.put j).1.mask = t.mask ∧ (t.put j).1.led = t.led ∧ (t.put j).1.plain = t.plain ∧ (t.put j).1.fill = n + 1 := by
  obtain ⟨c1, _, _⟩ := below_cut T.ris j
  have np : t.place[SetTable.below t.place j]? ≠ some j := fun e => hj (by
    rw [← Array.getElem?_toList] at e
    exact List.mem_of_getElem? e)
  have size1 : (t.put j).1.place.size = n + 1 := by
    have e := congrArg List.length (put_place t j)
    rw [len_ins _ (by rw [Array.length_toList]; exact c1), Array.length_toList, Array.length_toList, T.sz] at e
    exact e
  refine ⟨rfl, ⟨ris_insert T.ris np, put_dm T.dm j, size1, T.mok⟩, rfl, rfl, rfl, ?_⟩
  unfold SetTable.fill
  rw [size1, put_dm T.dm j]
  rfl
/-! ### laid anew -/
structure OwnW (m n : Nat) (owner : Array (Option Nat)) : Prop where
  sz : owner.size = m + 1
  all : ∀ k, k < n → ∃ j, j ≤ m ∧ oAt owner j = some k
  ps : ∃ l : List Nat, l.length = n ∧ ∀ j, j ≤ m → oAt owner j ≠ none → j ∈ l
theorem OwnW.init (m : Nat) : OwnW m 0 (Array.replicate (m + 1) none) :=
  ⟨by simp, fun k hk => absurd hk (Nat.not_lt_zero _), [], rfl, fun j hj e => absurd (oAt_init hj) e⟩
theorem freeW {m : Nat} (hm : MaskW m) (owner : Array (Option Nat)) (h : Int) {j : Nat} (hj : j ≤ m) (hf : oAt owner j = none) :
    ∃ K, SetTable.layClean.free m owner (SetTable.turns m) (SetTable.bits h % (m + 1)) (SetTable.bits h) = some (way m h K) ∧ oAt owner (way m h K) = none := by
  obtain ⟨n, hn, e⟩ := meetW hm h hj
  have w0 : way m h (off m (SetTable.bits h % (m + 1)) (SetTable.bits h) n) = j := by
    unfold way
    rw [nth_off, itL_run]
    exact e
  obtain ⟨K, k1, k2, k3⟩ := st_least (p := fun k => oAt owner (way m h k) = none) _ (by rw [w0]; exact hf)
  refine ⟨K, free_spec m owner (SetTable.turns m) n _ _ K (by unfold SetTable.turns; omega) k1 (fun k hk => ?_) ?_, k2⟩
  · have q : oAt owner (way m h k) ≠ none := k3 k hk
    revert q
    unfold way
    generalize oAt owner (nth m _ k).j = z
    intro q
    cases z with
    | none => exact absurd rfl q
    | some _ => rfl
  · have q : oAt owner (nth m (runAt m (SetTable.bits h % (m + 1)) (SetTable.bits h)) K).j = none := k2
    rw [q]
    rfl
theorem OwnW.step {m n : Nat} (hm : MaskW m) {owner : Array (Option Nat)} (W : OwnW m n owner) (hl : n ≤ m) (h : Int) :
    ∃ j, SetTable.layClean.free m owner (SetTable.turns m) (SetTable.bits h % (m + 1)) (SetTable.bits h) = some j ∧ OwnW m (n + 1) (owner.setIfInBounds j (some n)) := by
  obtain ⟨l, hl1, hin⟩ := W.ps
  obtain ⟨j0, h0, hn0⟩ := st_missing l (m + 1) (by omega)
  have free0 : oAt owner j0 = none := Classical.byContradiction fun c => hn0 (hin j0 (by omega) c)
  obtain ⟨K, e1, e2⟩ := freeW hm owner h (j := j0) (by omega) free0
  have hjm : way m h K ≤ m := wayW_le
  refine ⟨_, e1, ?_⟩
  generalize way m h K = j at e2 hjm ⊢
  have self := oAt_set_self (some n) (j := j) (owner := owner) (by rw [W.sz]; omega)
  refine ⟨by rw [Array.size_setIfInBounds]; exact W.sz, fun k hk => ?_, j :: l, by rw [List.length_cons, hl1], fun i hi e => ?_⟩
  · by_cases c : k = n
    · rw [c]
      exact ⟨j, hjm, self⟩
    · obtain ⟨i, hi, e⟩ := W.all k (by omega)
      refine ⟨i, hi, ?_⟩
      rw [oAt_set_ne _ (fun z => by rw [z, e2] at e; cases e)]
      exact e
  · by_cases c : i = j
    · rw [c]
      exact List.mem_cons_self
    · rw [oAt_set_ne _ c] at e
      exact List.mem_cons_of_mem _ (hin i hi e)
theorem foldW {m : Nat} (hm : MaskW m) : ∀ (rest : List Int) (n : Nat) (owner : Array (Option Nat)), OwnW m n owner → n + rest.length ≤ m →
    ∃ owner2, rest.foldl (stepF m) (some (owner, n)) = some (owner2, n + rest.length) ∧ OwnW m (n + rest.length) owner2
  | [], n, owner, W, _ => ⟨owner, rfl, W⟩
  | h :: rest, n, owner, W, hl => by
    rw [List.length_cons] at hl ⊢
    obtain ⟨j, e, W1⟩ := W.step hm (by omega) h
    obtain ⟨owner2, f, W2⟩ := foldW hm rest (n + 1) _ W1 (by omega)
    rw [show n + 1 + rest.length = n + (rest.length + 1) by omega] at f W2
    refine ⟨owner2, ?_, W2⟩
    rw [List.foldl_cons, stepF_some e]
    exact f
theorem relaidW (t : SetTable) {hs : Array Int} {wanted M : Nat} (hw : SetTable.sizeAbove wanted - 1 = M) (hM : MaskW M) (hn : hs.size ≤ M) :
    ∃ t2 order, t.relaid hs wanted = some (t2, order) ∧ order.toList.Perm (List.range hs.size) ∧ TabW t2 hs.size ∧ t2.mask = M ∧ t2.led = t.led ∧ t2.plain = t.plain := by
  obtain ⟨owner, f, W⟩ := foldW hM hs.toList 0 _ (OwnW.init M) (by rw [Array.length_toList]; omega)
  rw [Array.length_toList, Nat.zero_add] at f W
  have lay : SetTable.layClean M hs = some owner := by
    rw [layClean_eq, f]
    rfl
  have new : t.relaid hs wanted = some (tabOf t M owner, ((liveOf M owner).map (·.2)).toArray) := by
    rw [relaid_eq, hw, lay]
    rfl
  have r1 : Ris ((liveOf M owner).map (·.1)) := (ris_live (fun j => owner.getD j none) (List.range (M + 1)) (by unfold Ris; exact List.pairwise_lt_range)).1
  have nd : ((liveOf M owner).map (·.1)).Nodup := r1.imp fun h => Nat.ne_of_lt h
  have len : (liveOf M owner).length = hs.size := by
    obtain ⟨l, p1, p2⟩ := W.ps
    have a := nat_nodup_len _ l nd fun x hx => by
      obtain ⟨⟨y, k⟩, hq, e⟩ := List.mem_map.mp hx
      obtain ⟨b1, b2⟩ := (mem_live W.sz).1 hq
      rw [← e]
      exact p2 y b1 (by rw [b2]; exact Option.some_ne_none _)
    have b := nat_nodup_len (List.range hs.size) ((liveOf M owner).map (·.2)) List.nodup_range fun k hk => by
      obtain ⟨j, b1, b2⟩ := W.all k (List.mem_range.mp hk)
      exact List.mem_map.mpr ⟨(j, k), (mem_live W.sz).2 ⟨b1, b2⟩, rfl⟩
    rw [List.length_map] at a b
    rw [List.length_range] at b
    omega
  refine ⟨_, _, new, perm_range hs.size _ (by simpa using len) fun k hk => ?_, ⟨r1, rfl, ?_, hM⟩, rfl, rfl, rfl⟩
  · obtain ⟨j, b1, b2⟩ := W.all k hk
    exact List.mem_map.mpr ⟨(j, k), (mem_live W.sz).2 ⟨b1, b2⟩, rfl⟩
  · show ((liveOf M owner).map (·.1)).toArray.size = hs.size
    rw [List.size_toArray, List.length_map, len]
theorem size_308 : SetTable.sizeAbove (SetTable.grown 77) = 512 := by decide +kernel

/-! ### the object -/
structure SetW (P : Program) (w : World) (h : Heap) (b : Addr) (M : List (Addr × List Int)) (rows : Array (Int × Value)) (v : Nat) (tb : SetTable) : Prop where
  ob : ∃ o, h.get? b = some o ∧ o.ExactSet ∧ o.data = .set rows v tb
  rows : rows.toList = rowsOf P w M
  tab : TabW tb M.length
  nd : (M.map (·.2)).Nodup
  tup : ∀ p ∈ M, IsT P w h p.2 p.1
  plain : tb.plain = true
  led : w.params.followText "set-order" = true ∨ tb.led = true
  room : M.length * 5 < tb.mask * 3
section
variable {P : Program} {w : World} {A : Around} {E : Value → Shared → Prop} {s : Shared} {b c : Addr} {M : List (Addr × List Int)} {rows : Array (Int × Value)} {v : Nat} {tb : SetTable} {key : List Int}
theorem SetW.size {h : Heap} (S : SetW P w h b M rows v tb) : rows.size = M.length := by
  have e := congrArg List.length S.rows
  rw [Array.length_toList] at e
  rw [e]
  exact List.length_map _
theorem fitsW {t : SetTable} {n : Nat} (T : TabW t n) (hl : n ≤ t.mask) : t.fits n = true := by
  unfold SetTable.fits SetTable.fill
  rw [T.dm, T.sz, Bool.and_eq_true, beq_iff_eq, decide_eq_true_eq]
  exact ⟨rfl, by show n + 0 ≤ t.mask; omega⟩
theorem SetW.fits {h : Heap} (S : SetW P w h b M rows v tb) : tb.fits rows.size = true := by
  rw [S.size]
  have := S.room
  exact fitsW S.tab (by omega)
theorem SetW.entry {h : Heap} (S : SetW P w h b M rows v tb) {i : Nat} {p : Addr × List Int} (e : M[i]? = some p) : rows[i]? = some (thash P w p.2, Value.ref p.1) := by
  rw [← Array.getElem?_toList, S.rows, rowsOf, List.getElem?_map, e]
  rfl
theorem SetW.keep {h h2 : Heap} (S : SetW P w h b M rows v tb) (hb : ∀ o, h.get? b = some o → h2.get? b = some o) (ht : ∀ p ∈ M, IsT P w h2 p.2 p.1) : SetW P w h2 b M rows v tb := by
  obtain ⟨⟨o, g, r⟩, h1, h3, h4, _, h5, h6, h7⟩ := S
  exact ⟨⟨o, hb o g, r⟩, h1, h3, h4, ht, h5, h6, h7⟩
theorem SetW.anew {h : Heap} (g : h.get? b = some { cls := .type "set", dict := none, data := .set #[] 0 (.fresh 0 0 (!w.params.followText "set-order")) }) : SetW P w h b [] #[] 0 (.fresh 0 0 (!w.params.followText "set-order")) := by
  refine ⟨⟨_, g, ⟨rfl, rfl, rfl⟩, rfl⟩, rfl, ⟨List.Pairwise.nil, rfl, rfl, .inl (.inl rfl)⟩, List.nodup_nil, fun p hp => (by cases hp), rfl, ?_, show 0 * 5 < 7 * 3 by decide⟩
  show _ ∨ (!w.params.followText "set-order") = true
  cases w.params.followText "set-order"
  · exact .inr rfl
  · exact .inl rfl
theorem nth_dummy {m : Nat} : ∀ (n : Nat) (p : SetTable.Probe), p.dummy = none → (nth m p n).dummy = none
  | 0, p, h => h
  | n + 1, p, h => nth_dummy n (adv m p) (by unfold adv; split <;> exact h)
/-- a search for what is not there, from the i-th step of its way on -/
theorem search_new (S : SetW P w s.heap b M rows v tb) (hc : IsT P w s.heap key c) (room : A.units < cLine) (fresh : key ∉ M.map (·.2)) {K : Nat} (far : K < 10 * SetTable.turns tb.mask)
    (out : way tb.mask (thash P w key) K ∉ tb.place.toList) (before : ∀ i, i < K → way tb.mask (thash P w key) i ∈ tb.place.toList) {Q : SetFound → Shared → Prop} (post : Q (.free (way tb.mask (thash P w key) K) false) s) :
    ∀ (f i : Nat) (stand : Option SetTable.Probe), stand.getD (tb.probeStart (thash P w key)) = nth tb.mask (runAt tb.mask (SetTable.bits (thash P w key) % (tb.mask + 1)) (SetTable.bits (thash P w key))) i → i ≤ K → K - i < f →
      wpAny (model P w) A (setSearchFrom b (.ref c) (thash P w key) true f stand) Q E s
  | 0, i, stand, _, _, hf => absurd hf (Nat.not_lt_zero _)
  | f + 1, i, stand, hst, hi, hf => by
    obtain ⟨o, g, x, d⟩ := S.ob
    rw [setSearchFrom_succ]
    refine wpAny_bind (wpAny_setState_of g d S.fits ?_)
    dsimp only
    refine wp_if_neg (by unfold SetTable.gaveWay; rw [S.tab.mok.odd]; decide) ?_
    try refine wpAny_bind (wpAny_pure ?_)
    have e1 : ∀ q, nth tb.mask (nth tb.mask (runAt tb.mask (SetTable.bits (thash P w key) % (tb.mask + 1)) (SetTable.bits (thash P w key))) i) q = nth tb.mask (runAt tb.mask (SetTable.bits (thash P w key) % (tb.mask + 1)) (SetTable.bits (thash P w key))) (i + q) := fun q => (nth_add tb.mask i _ q).symm
    have e2 : ∀ q, (nth tb.mask (nth tb.mask (runAt tb.mask (SetTable.bits (thash P w key) % (tb.mask + 1)) (SetTable.bits (thash P w key))) i) q).j = way tb.mask (thash P w key) (i + q) := fun q => congrArg SetTable.Probe.j (e1 q)
    have spec := go_spec tb S.tab.ris S.tab.dm (fun n => (rows[n]?.map (·.1)).getD 0) (thash P w key) (10 * SetTable.turns tb.mask) (K - i) _ (nth_dummy i (runAt tb.mask (SetTable.bits (thash P w key) % (tb.mask + 1)) (SetTable.bits (thash P w key))) rfl) (by omega)
      (fun q hq => by rw [e2]; exact before _ (by omega)) (by rw [e2, Nat.add_sub_cancel' hi]; exact out)
    rw [← hst] at spec
    rcases spec with ⟨q, n, hq, hn, hh, _, met⟩ | ⟨_, met⟩
    · rw [hst] at hn met
      rw [e2] at hn met
      rw [e1] at met
      rw [← hst] at met
      have met2 : tb.probe (fun n => (rows[n]?.map (·.1)).getD 0) (thash P w key) (stand.getD (tb.probeStart (thash P w key))) = some (.candidate (way tb.mask (thash P w key) (i + q)) n (nth tb.mask (runAt tb.mask (SetTable.bits (thash P w key) % (tb.mask + 1)) (SetTable.bits (thash P w key))) (i + (q + 1)))) := met
      rw [met2]
      dsimp only
      have nl : n < M.length := by
        have h1 := (List.getElem?_eq_some_iff.mp hn).1
        rw [Array.length_toList, S.tab.sz] at h1
        exact h1
      have hp : M[n]? = some M[n] := List.getElem?_eq_getElem nl
      generalize M[n] = p at hp
      have pm : p ∈ M := List.mem_of_getElem? hp
      have pt := S.tup p pm
      have other : ¬ p.2 = key := fun e => fresh (List.mem_map.mpr ⟨p, pm, e⟩)
      have rest : wpAny (model P w) A (searchRest b (.ref c) (thash P w key) true f rows tb (way tb.mask (thash P w key) (i + q)) n (nth tb.mask (runAt tb.mask (SetTable.bits (thash P w key) % (tb.mask + 1)) (SetTable.bits (thash P w key))) (i + (q + 1)))) Q E s := by
        unfold searchRest
        rw [S.entry hp]
        dsimp only
        refine wpAny_bind (wpAny_holding (wpAny_eqBool_tuple room pt hc ?_))
        refine wpAny_bind (wpAny_setState_of g d S.fits ?_)
        dsimp only
        refine wp_if_neg (by simp [other]) ?_
        try refine wpAny_bind (wpAny_pure ?_)
        rw [sameMem]
        dsimp only
        have sl : tb.slot (way tb.mask (thash P w key) (i + q)) = .live n := slot_live S.tab.ris hn
        simp only [if_true, sl, S.entry hp]
        refine wpAny_bind (wpAny_isSame_ref_self (wpAny_bind (wpAny_pure ?_)))
        simp only [if_true]
        refine wp_if_neg (by simp [other]) ?_
        exact search_new S hc room fresh far out before post f (i + (q + 1)) _ rfl (by omega) (by omega)
      by_cases hl : tb.led = true
      · refine wp_if_neg (by simp [hl]) ?_
        try refine wpAny_bind (wpAny_pure ?_)
        exact rest
      · refine wp_if_pos (by simp [hl]) ?_
        refine wpAny_bind (seen_tup hc (fun y hy => ?_) (wp_if_neg (by decide) ?_))
        · obtain ⟨z, hz, rfl⟩ := List.mem_map.mp hy
          have hz1 : z ∈ rows ∧ z.1 = thash P w key := by simpa using hz
          have hz2 : z ∈ rows.toList := by simpa using hz1.1
          rw [S.rows] at hz2
          obtain ⟨p2, hp2, rfl⟩ := List.mem_map.mp hz2
          exact ⟨p2.2, p2.1, rfl, S.tup p2 hp2⟩
        · try refine wpAny_bind (wpAny_pure ?_)
          exact rest
    · rw [hst, e2, Nat.add_sub_cancel' hi, ← hst] at met
      have met2 : tb.probe (fun n => (rows[n]?.map (·.1)).getD 0) (thash P w key) (stand.getD (tb.probeStart (thash P w key))) = some (.empty (way tb.mask (thash P w key) K) none) := met
      rw [met2]
      dsimp only
      exact wpAny_pure post
theorem search_newAt (S : SetW P w s.heap b M rows v tb) (hc : IsT P w s.heap key c) (room : A.units < cLine) (fresh : key ∉ M.map (·.2)) {Q : SetFound → Shared → Prop}
    (post : ∀ j, j ∉ tb.place.toList → Q (.free j false) s) : wpAny (model P w) A (setSearch b (.ref c) (thash P w key) true) Q E s := by
  have r := S.room
  obtain ⟨K, far, out, before⟩ := S.tab.first (by omega) (thash P w key)
  have ml := S.tab.mok.le
  unfold setSearch
  exact search_new S hc room fresh far out before (post _ out) 100000 0 none rfl (Nat.zero_le _) (by unfold SetTable.turns at far; omega)
theorem relayW {o : Obj} (g : s.heap.get? b = some o) (x : o.ExactSet) (d : o.data = .set rows v tb) (er : rows.toList = rowsOf P w M) (T : TabW tb M.length) (hfl : M.length ≤ tb.mask)
    (nd : (M.map (·.2)).Nodup) (tup : ∀ p ∈ M, IsT P w s.heap p.2 p.1) (pl : tb.plain = true) (ld : w.params.followText "set-order" = true ∨ tb.led = true) {wanted N : Nat}
    (hw : SetTable.sizeAbove wanted - 1 = N) (hM : MaskW N) (hw2 : SetTable.sizeAbove wanted ≤ 512) (hn : M.length * 5 < N * 3) {Q : Unit → Shared → Prop}
    (post : ∀ hp M2 rows2 v2 tb2, Heap.SameBut b s.heap hp → SetW P w hp b M2 rows2 v2 tb2 → M2.Perm M → Q () { s with heap := hp }) : wpAny (model P w) A (setRelay b wanted) Q E s := by
  have sz : rows.size = M.length := by
    have e := congrArg List.length er
    rw [Array.length_toList] at e
    rw [e]
    exact List.length_map _
  have ft : tb.fits rows.size = true := by rw [sz]; exact fitsW T hfl
  have ML : M.length ≤ 1000 := by have := hM.le; omega
  obtain ⟨tb2, order, e, hp, T2, em, el, ep⟩ := relaidW tb (hs := rows.map (·.1)) (wanted := wanted) hw hM (by rw [Array.size_map, sz]; omega)
  rw [Array.size_map, sz] at hp T2
  obtain ⟨M2, r1, r2, _⟩ := order_rows M rows order er hp
  have sz2 : (order.filterMap (rows[·]?)).size = M.length := by
    have h := congrArg List.length r1
    unfold rowsOf at h
    rw [Array.length_toList, List.length_map, r2.length_eq] at h
    exact h
  rw [setRelay_eq]
  refine wpAny_bind (wpAny_setState_of g d ft ?_)
  dsimp only
  refine wp_if_neg (by rw [sizeLine_eq]; omega) ?_
  try refine wpAny_bind (wpAny_pure ?_)
  rw [e]
  dsimp only
  refine wpAny_bind ?_
  refine wp_if_neg (by rw [sz2, sz]; simp) ?_
  try refine wpAny_bind (wpAny_pure ?_)
  refine wpAny_pure ?_
  dsimp only
  refine wpAny_storeSet_of g d ?_ (by rw [sz2, sizeLine_eq]; omega)
  have keepB : Heap.SameBut b s.heap (s.heap.update b (Obj.putSet (order.filterMap (rows[·]?)) tb2)) := Heap.SameBut.update ..
  refine post _ M2 (order.filterMap (rows[·]?)) (v + 1) tb2 keepB ?_ r2
  refine ⟨⟨_, store_at g d, ⟨x.1, x.2.1, x.2.2⟩, rfl⟩, r1, by rw [r2.length_eq]; exact T2, (r2.map (·.2)).nodup_iff.mpr nd, fun p hpm => isT_same (tup p (r2.mem_iff.mp hpm)) g d keepB, by rw [ep]; exact pl, by rw [el]; exact ld, ?_⟩
  rw [r2.length_eq, em]
  exact hn
theorem addW (S : SetW P w s.heap b M rows v tb) (hc : IsT P w s.heap key c) (room : A.units < cLine) (fresh : key ∉ M.map (·.2)) (few : M.length < 128) {Q : Bool → Shared → Prop}
    (post : ∀ y hp M2 rows2 v2 tb2, Heap.SameBut b s.heap hp → SetW P w hp b M2 rows2 v2 tb2 → M2.Perm ((c, key) :: M) → Q y { s with heap := hp }) : wpAny (model P w) A (setAddHashed b (.ref c) (thash P w key)) Q E s := by
  obtain ⟨o, g, x, d⟩ := S.ob
  have sz := S.size
  have rm := S.room
  unfold setAddHashed
  refine wpAny_holding ?_
  rw [show 100000 = 99999 + 1 from rfl]
  rw [setAddHashedIn_succ]
  refine wpAny_bind (wpAny_setState_of g d S.fits ?_)
  dsimp only
  refine wp_if_neg (by simp [byScan, Value.scannable]) ?_
  try refine wpAny_bind (wpAny_pure ?_)
  refine wpAny_bind (search_newAt S hc room fresh fun j out => ?_)
  dsimp only
  refine wpAny_bind (wpAny_setState_of g d S.fits ?_)
  dsimp only
  obtain ⟨q1, q3, q4, q5, q6, q9⟩ := S.tab.put out
  have pl1 : (tb.put j).1.plain = true := q6.trans S.plain
  generalize tb.put j = pt at q1 q3 q4 q5 q6 q9 pl1 ⊢
  obtain ⟨t1, p⟩ := pt
  dsimp only at q1 q3 q4 q5 q6 q9 pl1 ⊢
  refine wp_if_pos pl1 ?_
  refine wpAny_bind (hashBy_tup hc ?_)
  simp only [if_true]
  have er : (SetTable.insertAt rows p (thash P w key, Value.ref c)).toList = rowsOf P w (M.take p ++ (c, key) :: M.drop p) := by
    rw [SetTable.toList_insertAt, rows_put, S.rows]
  have pm := put_perm M p (c, key)
  generalize SetTable.insertAt rows p (thash P w key, Value.ref c) = r2 at er ⊢
  generalize M.take p ++ (c, key) :: M.drop p = M1 at pm er
  have len1 : M1.length = M.length + 1 := pm.length_eq
  have sz1 : r2.size = M.length + 1 := by
    have e := congrArg List.length er
    unfold rowsOf at e
    rw [Array.length_toList, List.length_map, len1] at e
    exact e
  have nd1 : (M1.map (·.2)).Nodup := (pm.map (·.2)).nodup_iff.mpr (List.nodup_cons.mpr ⟨fresh, S.nd⟩)
  refine wpAny_bind (wpAny_storeSet_of g d ?_ (by rw [sz1, sizeLine_eq]; omega))
  have keepB : Heap.SameBut b s.heap (s.heap.update b (Obj.putSet r2 t1)) := Heap.SameBut.update ..
  have nowB := store_at (es' := r2) (t' := t1) g d
  generalize s.heap.update b (Obj.putSet r2 t1) = h1 at keepB nowB ⊢
  have tup1 : ∀ p ∈ M1, IsT P w h1 p.2 p.1 := fun p hp => by
    rcases List.mem_cons.mp (pm.mem_iff.mp hp) with rfl | hp
    · exact isT_same hc g d keepB
    · exact isT_same (S.tup p hp) g d keepB
  have ld1 : w.params.followText "set-order" = true ∨ t1.led = true := by rw [q5]; exact S.led
  have T1 : TabW t1 M1.length := by rw [len1]; exact q3
  by_cases full : t1.tooFull = true
  · have full2 := full
    unfold SetTable.tooFull at full2
    rw [decide_eq_true_eq, q9, q4] at full2
    have cases3 : (tb.mask = 7 ∧ M.length = 4) ∨ (tb.mask = 31 ∧ M.length = 18) ∨ (tb.mask = 127 ∧ M.length = 76) := by
      rcases S.tab.mok with (e | e | e) | e <;> rw [e] at full2 rm <;> omega
    have go : ∀ N, SetTable.sizeAbove (SetTable.grown (M.length + 1)) - 1 = N → MaskW N → SetTable.sizeAbove (SetTable.grown (M.length + 1)) ≤ 512 → (M.length + 1) * 5 < N * 3 →
        wpAny (model P w) A (setRelay b (SetTable.grown (M.length + 1))) (fun _ s' => wpAny (model P w) A (pure true) Q E s') E { s with heap := h1 } := fun N n1 n2 n3 n4 => by
      refine relayW (s := { s with heap := h1 }) nowB ⟨x.1, x.2.1, x.2.2⟩ rfl er T1 (by rw [len1, q4]; omega) nd1 tup1 pl1 ld1 n1 n2 n3 (by rw [len1]; exact n4) fun h2 M2 rows2 v2 tb2 sb2 S2 pm2 => ?_
      exact wpAny_pure (post true h2 M2 rows2 v2 tb2 (keepB.trans sb2) S2 (pm2.trans pm))
    rw [sz]
    first
      | (refine wpAny_bind ?_; refine wp_if_pos (by simp [full]) ?_)
      | (refine wp_if_pos (by simp [full]) ?_; refine wpAny_bind ?_)
    rcases cases3 with ⟨_, e2⟩ | ⟨_, e2⟩ | ⟨_, e2⟩
    · exact go 31 (by rw [e2, size_20]) (.inl (.inr (.inl rfl))) (by rw [e2, size_20]; decide) (by omega)
    · exact go 127 (by rw [e2, size_76]) (.inl (.inr (.inr rfl))) (by rw [e2, size_76]; decide) (by omega)
    · exact go 511 (by rw [e2, size_308]) (.inr rfl) (by rw [e2, size_308]; decide) (by omega)
  · first
      | refine wp_if_neg (by simp [full]) ?_
      | (refine wpAny_bind ?_; refine wp_if_neg (by simp [full]) ?_; refine wpAny_pure ?_)
    refine wpAny_pure (post true h1 M1 r2 (v + 1) t1 keepB ⟨⟨_, nowB, ⟨x.1, x.2.1, x.2.2⟩, rfl⟩, er, T1, nd1, tup1, pl1, ld1, ?_⟩ pm)
    have full2 := full
    unfold SetTable.tooFull at full2
    rw [decide_eq_true_eq, q9] at full2
    rw [len1]
    omega
end
end L2
namespace L2
open PySem PySem.Spec PyProof.Rows
section
variable {P : Program} {w : World} {A : Around} {E : Value → Shared → Prop}
theorem take_new {ks : List (Addr × List Int)} {i : Nat} {p : Addr × List Int} (nd : (ks.map (·.2)).Nodup) (e : ks[i]? = some p) : p.2 ∉ (ks.take i).map (·.2) := by
  intro hm
  obtain ⟨q, hq, eq⟩ := List.mem_map.mp hm
  obtain ⟨j, hj⟩ := List.getElem?_of_mem hq
  rw [List.getElem?_take] at hj
  split at hj
  · rename_i ji
    obtain ⟨il, a2⟩ := List.getElem?_eq_some_iff.mp e
    obtain ⟨jl, a1⟩ := List.getElem?_eq_some_iff.mp hj
    have := List.pairwise_iff_getElem.mp nd j i (by simpa using jl) (by simpa using il) ji
    rw [List.getElem_map, List.getElem_map, a1, a2] at this
    exact this eq
  · cases hj
theorem loopW {I : Addr} {fp wr : List Addr} {G : Array GenState → Array GenState → Prop} {Pv : Nat → Value → Prop} {St : Nat → Shared → Prop} {R : Result → Shared → Prop} {b : Addr} {ks : List (Addr × List Int)} {h0 : Heap}
    (W : WalksS P w A.in1 I fp wr G ks.length Pv St) (bf : b ∉ fp) (val : ∀ i v, Pv i v → ∃ p, ks[i]? = some p ∧ v = .ref p.1) (nd : (ks.map (·.2)).Nodup) (few : ks.length ≤ 128)
    (tup : ∀ p ∈ ks, IsT P w h0 p.2 p.1) (b0 : h0.get? b = none) (w0 : ∀ x ∈ wr, h0.get? x = none) (room : A.in1.units < cLine) :
    ∀ (left i : Nat) (s : Shared), i + left = ks.length → St i s → (∀ x o, h0.get? x = some o → s.heap.get? x = some o) → (∃ M rows v tb, SetW P w s.heap b M rows v tb ∧ M.Perm (ks.take i)) →
      (∀ s' M rows v tb, Moved (b :: wr) G s s' → SetW P w s'.heap b M rows v tb → M.Perm ks → (∀ x o, h0.get? x = some o → s'.heap.get? x = some o) → R (.ok (.ret .none)) s') → codeAny (model P w) A (.builtin "set.update.loop" ⟨[.ref b, .ref I], []⟩) R s := by
  have bw : b ∉ wr := fun z => bf (W.sub _ z)
  have wider : ∀ x ∈ wr, x ∈ b :: wr := fun x z => List.mem_cons_of_mem _ z
  have stays : ∀ {s s' : Shared}, Moved wr G s s' → (∀ x o, h0.get? x = some o → s.heap.get? x = some o) → ∀ x o, h0.get? x = some o → s'.heap.get? x = some o := fun mv k x o e =>
    mv.heap x o (fun z => by rw [w0 x z] at e; cases e) (k x o e)
  intro left
  induction left with
  | zero =>
    intro i s hi st k0 ⟨M, rows, v, tb, S, pm⟩ fin
    have hi : i = ks.length := hi
    subst hi
    rw [List.take_length] at pm
    refine codeAny_builtin PyProof.Rows.F.entry_set_update_loop ?_
    rw [Around.under_plainId PyProof.Rows.F.plain_set_update_loop _]
    show wpAny _ A.in1 (pyNext (.ref I) >>= _) _ _ s
    refine wpAny_bind (W.done s _ _ st fun s1 mv => wpAny_pure ?_)
    exact fin s1 M rows v tb (mv.mono wider) (S.keep (fun o e => mv.heap b o bw e) fun p hp => isT_keep (tup p (pm.mem_iff.mp hp)) (stays mv k0)) pm (stays mv k0)
  | succ left ih =>
    intro i s hi st k0 ⟨M, rows, v, tb, S, pm⟩ fin
    refine codeAny_builtin PyProof.Rows.F.entry_set_update_loop ?_
    rw [Around.under_plainId PyProof.Rows.F.plain_set_update_loop _]
    show wpAny _ A.in1 (pyNext (.ref I) >>= _) _ _ s
    refine wpAny_bind (W.item i s _ _ (by omega) st fun v s1 hv st1 mv => ?_)
    obtain ⟨p, ep, rfl⟩ := val i v hv
    have k1 := stays mv k0
    have all1 : ∀ q ∈ ks, IsT P w s1.heap q.2 q.1 := fun q hq => isT_keep (tup q hq) k1
    have S1 := S.keep (h2 := s1.heap) (fun o e => mv.heap b o bw e) fun q hq => all1 q (List.mem_of_mem_take (pm.mem_iff.mp hq))
    have tp : IsT P w s1.heap p.2 p.1 := all1 p (List.mem_of_getElem? ep)
    have fresh : p.2 ∉ M.map (·.2) := fun hm => take_new nd ep ((pm.map (·.2)).mem_iff.mp hm)
    have lenM : M.length < 128 := by
      rw [pm.length_eq, List.length_take]
      omega
    show wpAny _ A.in1 (holding [Value.ref p.1] (setAdd b (.ref p.1)) >>= _) _ _ s1
    refine wpAny_bind (wpAny_holding ?_)
    unfold setAdd
    refine wpAny_holding (wpAny_bind (wpAny_pyHash_tuple room tp ?_))
    refine addW (s := { s1 with toks := s1.toks + (p.2.length + 1) }) S1 tp room fresh lenM fun x h' M2 rows2 v2 tb2 sb S2 pm2 => ?_
    have k2 : ∀ x o, h0.get? x = some o → h'.get? x = some o := fun x o e => (sb.2 x (fun z => by rw [z, b0] at e; cases e)).trans (k1 x o e)
    have pm3 : M2.Perm (ks.take (i + 1)) := by
      rw [take_next ep]
      exact pm2.trans ((pm.cons p).trans (List.perm_append_singleton p _).symm)
    refine wpAny_pure ⟨plainId_quiet PyProof.Rows.F.plain_set_update_loop _, ih (i + 1) _ (by omega) (W.frame _ s1 _ _ st1 (Nat.le_add_right _ _) fun x hx o e => ?_) k2 ⟨M2, rows2, v2, tb2, S2, pm3⟩ fun s2 M4 rows4 v4 tb4 mv2 S4 pm4 k3 => ?_⟩
    · rw [sb.2 x (fun z : x = b => bf (by rw [← z]; exact hx))]
      exact e
    · refine fin s2 M4 rows4 v4 tb4 (Moved.trans W.gtrans ((mv.mono wider).then_heap (Nat.le_add_right _ _) fun x o hx e => ?_) mv2) S4 pm4 k3
      rw [sb.2 x (fun z : x = b => hx (by rw [z]; exact List.mem_cons_self))]
      exact e
end
section
variable {P : Program} {w : World} {A : Around} {E : Value → Shared → Prop} {s : Shared}
abbrev newSetW (w : World) : Obj := { cls := .type "set", dict := none, data := .set #[] 0 (.fresh 0 0 (!w.params.followText "set-order")) }
theorem none_atW {h : Heap} {x : Addr} (z : h.objs.size ≤ x) : h.get? x = none := by
  cases q : h.get? x with
  | none => rfl
  | some o => exact absurd (Nat.lt_of_lt_of_le (Heap.lt_size q) z) (Nat.lt_irrefl _)
set_option maxHeartbeats 6400000 in
/-- set(xs), up to 128 tuples, all different -/
theorem call_setW {l : Addr} {items : Array Value} (ks : List (Addr × List Int)) {Q : Value → Shared → Prop} (calm : A.handled = none) (isl : s.heap.IsList l items) (eit : items.toList = ks.map fun p => Value.ref p.1)
    (tup : ∀ p ∈ ks, IsT P w s.heap p.2 p.1) (few : ks.length ≤ 128) (nd : (ks.map (·.2)).Nodup) (room : A.units + 3 < cLine)
    (post : ∀ (h' : Heap) (tk : Nat) M rows v tb, SetW P w h' s.heap.objs.size M rows v tb → M.Perm ks → (∀ x o, s.heap.get? x = some o → h'.get? x = some o) → Q (.ref s.heap.objs.size) { s with heap := h', toks := tk }) :
    wpAny (model P w) A (call (.type "set") [.ref l]) Q E s := by
  have isz : items.size = ks.length := by
    have q := congrArg List.length eit
    rw [Array.length_toList, List.length_map] at q
    exact q
  obtain ⟨c, tl, hmro⟩ := F.called_set.mro
  have hmade := F.called_set.made
  have hsub := F.called_set.sub
  refine wpAny_call (codeAny_of_tree ?_)
  show wpAny _ _ (callAny (.type "set") _) _ _ _
  refine wpAny_pure ⟨Code.quiet_builtin _ (by decide +kernel), ?_⟩
  refine codeAny_builtin F.entry_type_call ?_
  rw [Around.under_plain (weight_type_call_type "set" [.ref l] []) rfl]
  have h1 := F.called_set.notType
  have h2 := F.called_set.canCreate
  have hct := F.typeCall_set_1 (.ref l)
  repeat (any_goals (first | assumption | wp_step))
  have at0 : (s.heap.push (newSetW w)).get? s.heap.objs.size = some (newSetW w) := Heap.get?_push_size _ rfl
  refine codeAny_mono (code_set_led1 (.ref l) (E := E) (Q₁ := fun x s1 => x = .ref s.heap.objs.size ∧ s1 = { s with heap := s.heap.push (newSetW w) }) ⟨rfl, rfl⟩) fun r s1 made => ?_
  cases r with
  | error e => exact made
  | ok fl =>
    cases fl with
    | ret x =>
      obtain ⟨rfl, rfl⟩ := made
      have ty : Shared.TypeIs { s with heap := s.heap.push (newSetW w) } (.ref s.heap.objs.size) "set" := ⟨_, at0, rfl⟩
      have hli := F.called_set.init.lookup
      have hbi := F.called_set.init.bind (.ref s.heap.objs.size)
      repeat (any_goals (first | assumption | wp_step))
      refine codeAny_mono (codeAny_call_builtin (R := wants (fun r s2 => r = .none ∧ ∃ h' tk M rows v tb, s2 = { s with heap := h', toks := tk } ∧ SetW P w h' s.heap.objs.size M rows v tb ∧ M.Perm ks ∧ ∀ x o, s.heap.get? x = some o → h'.get? x = some o) E) F.called_set.init.plain F.entry_set_init (check_set_init_1 ty ?_)) fun r2 s2 done => ?_
      · obtain ⟨ol, hol, hcl, nl, hdl⟩ := isl
        obtain ⟨ocls, odict, odata, oslots⟩ := ol
        simp only at hcl hdl
        subst hcl; subst hdl
        have hol' : (s.heap.push (newSetW w)).get? l = some { cls := .type "list", dict := odict, data := .seq items nl, slots := oslots } := Heap.get?_push_of_some _ hol
        have hsls := F.sub_list_set
        have hslf := F.sub_list_frozenset
        have hne : (Value.type "list" == Value.type "dict") = false := by decide
        have isl1 : (s.heap.push (newSetW w)).IsList l items := ⟨_, hol', rfl, nl, rfl⟩
        unfold Builtin.«set.__init__» noKeywords Builtin.Frozenset.updateFrom
        generalize hPI : pyIter = PI
        wp_walk
        subst hPI
        refine wpAny_pyIter_list isl1 (wpAny_bind (wpAny_runValue ?_))
        have lS : l < s.heap.objs.size := Heap.lt_size hol
        have calm3 : A.in1.in1.in1.handled = none := by simp [calm]
        have neI : l ≠ (s.heap.push (newSetW w)).objs.size := by
          rw [Heap.size_push]
          exact Nat.ne_of_lt (Nat.lt_succ_of_lt lS)
        have outS : s.heap.objs.size ∉ [(s.heap.push (newSetW w)).objs.size, l] := by
          rw [Heap.size_push]
          simp only [List.mem_cons, List.mem_singleton, List.not_mem_nil, or_false, not_or]
          exact ⟨Nat.ne_of_lt (Nat.lt_succ_self _), Nat.ne_of_gt lS⟩
        have val : ∀ (i : Nat) (v : Value), items[i]? = some v → ∃ p, ks[i]? = some p ∧ v = .ref p.1 := fun i v hv => by
          have q : items.toList[i]? = some v := by rw [Array.getElem?_toList]; exact hv
          rw [eit, List.getElem?_map] at q
          obtain ⟨p, e1, e2⟩ := Option.map_eq_some_iff.mp q
          exact ⟨p, e1, e2.symm⟩
        have wk := (Walks.list (prog := P) (w := w) calm3 _ l neI items).toS
        rw [isz] at wk
        have start : ((s.heap.push (newSetW w)).push { cls := .type "list_iterator", data := .fields #[.ref l, .int 0 0] }).get? s.heap.objs.size = some (newSetW w) := Heap.get?_push_of_some _ at0
        refine loopW wk outS val nd few tup (none_atW (Nat.le_refl _)) (fun x hx => none_atW (by
          rw [List.mem_singleton.mp hx, Heap.size_push]
          exact Nat.le_succ _)) room ks.length 0 _ (Nat.zero_add _) ?_ (fun x o e => Heap.get?_push_of_some _ (Heap.get?_push_of_some _ e)) ?_ ?_
        · exact ⟨⟨_, Heap.get?_push_size _ rfl, rfl, rfl⟩, isl1.push _⟩
        · exact ⟨[], #[], 0, _, SetW.anew start, List.Perm.refl _⟩
        · intro s3 M rows v tb mv N pm k
          obtain ⟨h3, g3, d3, t3, o3⟩ := s3
          have eg : g3 = s.gens := mv.gens
          have ed : d3 = s.drawn := mv.drawn
          have eo : o3 = s.os := mv.os
          subst eg ed eo
          refine wpAny_pure (wpAny_pure ?_)
          exact ⟨rfl, h3, t3, M, rows, v, tb, rfl, N, pm, k⟩
      · cases r2 with
        | error e => exact done
        | ok fl2 =>
          cases fl2 with
          | ret r =>
            obtain ⟨rfl, h', tk, M, rows, v, tb, rfl, N, pm, k⟩ := done
            repeat (any_goals (first | assumption | wp_step))
            exact post _ _ _ _ _ _ N pm k
          | _ => exact done.elim
    | _ => exact made.elim
end
/-! ### sorted of it -/
section
variable {P : Program} {w : World} {A : Around} {E : Value → Shared → Prop} {s : Shared} {b : Addr} {M : List (Addr × List Int)} {rows : Array (Int × Value)} {v : Nat} {tb : SetTable}
theorem sortedW {Q : Value → Shared → Prop} (S : SetW P w s.heap b M rows v tb) (calm : A.handled = none) (few : M.length ≤ 128) {d : Nat} {B : Int} (d1 : 1 ≤ d) (bd : ∀ p ∈ M, p.2.length = d ∧ TS.Bd B p.2)
    (post : ∀ s2 p (out : List Value) (n : Nat), (∀ x o, s.heap.get? x = some o → s2.heap.get? x = some o) → s2.gens = s.gens → s2.os = s.os → s.heap.objs.size ≤ p → s2.heap.get? p = some (seqObj "list" out.toArray n) →
      out.Perm (M.map fun q => Value.ref q.1) → SrtO.Srtd (fun x y => decide (TS.code B (TS.intsOf s2.heap x) < TS.code B (TS.intsOf s2.heap y))) out → Q (.ref p) s2) :
    wpAny (model P w) A (call (.builtin "sorted") [.ref b]) Q E s := by
  obtain ⟨o, g, x, dt⟩ := S.ob
  have sz := S.size
  refine Calls.call_function_entry kind_sorted plain_sorted entry_sorted (args_sorted1 _) ?_
  unfold Builtin.«sorted»
  refine wpAny_bind (m := checkCount "sorted" 1 1 _) (wpAny_pure ?_)
  refine wpAny_bind (collect_set (A := A.in1) calm ⟨o, g, x.1, dt⟩ S.fits (by unfold scanBound; omega) S.tab.ris S.led fun s1 vs k1 z1 g1 o1 pm => ?_)
  have er : rows.toList.map (·.2) = M.map fun q => Value.ref q.1 := by
    rw [S.rows, rowsOf, List.map_map]
    rfl
  rw [er] at pm
  have vl : vs.length ≤ 128 := by
    rw [pm.length_eq, List.length_map]
    exact few
  refine wpAny_bind (wpAny_newList ?_ (by rw [sizeLine_eq]; omega))
  have at1 : (s1.heap.push (seqObj "list" vs.toArray 0)).get? s1.heap.objs.size = some (seqObj "list" vs.toArray 0) := Heap.get?_push_size _ rfl
  have tk : ∀ q ∈ M, ∀ h2 : Heap, (∀ x o, s1.heap.get? x = some o → h2.get? x = some o) → TS.TupInts h2 (.ref q.1) q.2 := fun q hq h2 kk => tupInts_of (P := P) (w := w) (isT_keep (S.tup q hq) fun x o e => kk x o (k1 x o e))
  have push : ∀ x o, s1.heap.get? x = some o → (s1.heap.push (seqObj "list" vs.toArray 0)).get? x = some o := fun x o e => Heap.get?_push_of_some _ e
  have raw : ∀ u ∈ vs, TS.TupInts (s1.heap.push (seqObj "list" vs.toArray 0)) u (TS.intsOf (s1.heap.push (seqObj "list" vs.toArray 0)) u) ∧ (TS.intsOf (s1.heap.push (seqObj "list" vs.toArray 0)) u).length = d ∧ TS.Bd B (TS.intsOf (s1.heap.push (seqObj "list" vs.toArray 0)) u) := fun u hu => by
    obtain ⟨q, hq, rfl⟩ := List.mem_map.mp (pm.mem_iff.mp hu)
    have t := tk q hq _ push
    rw [t.ints]
    exact ⟨t, bd q hq⟩
  refine wpAny_bind (wpAny_holding (wpAny_call_entry slot_list_sort ⟨_, at1, rfl⟩ entry_list_sort (SrtO.list_sort_ord (s := { s1 with heap := s1.heap.push (seqObj "list" vs.toArray 0) }) (R.swo_code fun u => TS.code B (TS.intsOf (s1.heap.push (seqObj "list" vs.toArray 0)) u)) at1 (by rw [sizeLine_eq]; omega) (fun h2 => ?_) fun out srt stb => ⟨_, rfl, ?_⟩) (args_list_sort _)))
  · refine R.tups_sortable (s := { s1 with heap := s1.heap.push (seqObj "list" vs.toArray 0) }) (k := fun u => TS.intsOf (s1.heap.push (seqObj "list" vs.toArray 0)) u) d1 h2 raw fun o e => ?_
    have e2 : some o = some (seqObj "list" vs.toArray 0) := e.symm.trans at1
    cases e2
    intro c
    exact absurd (Value.type.inj c) (by decide)
  · obtain ⟨n, hn⟩ := sortedHeap_at (vs := vs) (out := out.toArray) at1
    have keep : ∀ x o, s1.heap.get? x = some o → (sortedHeap (s1.heap.push (seqObj "list" vs.toArray 0)) s1.heap.objs.size vs out.toArray).get? x = some o := fun x o e => by
      have lt := Heap.lt_size e
      rw [sortedHeap_old (Nat.ne_of_lt lt) (by rw [size_push']; exact Nat.lt_succ_of_lt lt)]
      exact push x o e
    refine wpAny_pure ⟨_, rfl, post _ s1.heap.objs.size out n (fun x o e => keep x o (k1 x o e)) g1 o1 z1 hn (stb.perm.trans pm) ?_⟩
    have same : ∀ u ∈ out, TS.intsOf (sortedHeap (s1.heap.push (seqObj "list" vs.toArray 0)) s1.heap.objs.size vs out.toArray) u = TS.intsOf (s1.heap.push (seqObj "list" vs.toArray 0)) u := fun u hu => by
      obtain ⟨q, hq, rfl⟩ := List.mem_map.mp ((stb.perm.trans pm).mem_iff.mp hu)
      rw [(tk q hq _ push).ints, (tk q hq _ keep).ints]
    refine List.Pairwise.imp_of_mem (fun {x y} hx hy hxy => ?_) srt
    dsimp only
    rw [same x hx, same y hy]
    exact hxy
end
/-- sorted(set(xs)), the tuples all different -/
def tSortW (K : PySem.W.Frag) (ta : TE) : TE := fun σ H Q => ta σ H fun x H1 => ∃ (l : Addr) (ks : List (Addr × List Int)) (k : V → List Int) (d : Nat) (B : Int), x = .ref l ∧ SqL K H1 l (ks.map fun p => V.ref p.1) ∧
  (∀ p ∈ ks, SqT K H1 p.1 (p.2.map V.int) ∧ k (V.ref p.1) = p.2 ∧ p.2.length = d ∧ TS.Bd B p.2) ∧ ks.length ≤ 128 ∧ (ks.map (·.2)).Nodup ∧ 1 ≤ d ∧
  ∀ ys p, ys.Perm (ks.map fun p => V.ref p.1) → SrtO.Srtd (R.ltC k B) ys → H1 p = none → Q (.ref p) (upd H1 p (.lst ys))
theorem pe_sortW {X : Cx} {e : Expr} {te : TE} {p p2 q pos : Pos} (calm : X.calm = true) (hu : X.A.units + 64 < cLine) (g1 : Gl X "sorted") (m1 : X.mg "sorted" = none) (g2 : Gl X "set") (m2 : X.mg "set" = none) (he : PE X e te)
    (st : starEach [e] X.env = (false, eval e X.env) :: starEach [] X.env := by rfl) : PE X (.Call (.Name "sorted" p) [.Call (.Name "set" p2) [e] [] q] [] pos) (tSortW X.K te) := by
  refine ⟨fun pins s σ H Q I h => ?_⟩
  refine Call_ (ld_blt I g1 m1 PyProof.Rows.boot_sorted (PyProof.Rows.callWith_builtin1 (PyProof.Rows.args_cons ?_ rfl) rfl rfl))
  refine Call_ (ld_blt I g2 m2 PyProof.Rows.boot_set ?_)
  refine PyProof.Rows.callWith_type1 (PyProof.Rows.args_cons (thn (he.run pins s σ H _ I h) fun v s1 ⟨x, H1, I1, r1, q1⟩ => PyProof.Rows.args_nil ?_) st) st rfl
  obtain ⟨l, ks, k, d, B, rfl, isl, tups, few, nd, d1, q1⟩ := q1
  cases r1
  obtain ⟨its, rv, pl, hz⟩ := I1.list isl
  have eit : its.toArray.toList = ks.map fun p => Value.ref p.1 := by simpa using refs_of_vals rv
  refine call_setW (P := X.prog) (w := X.w) ks (I1.ok.hd calm) pl.isList eit (fun p hp => I1.isT (tups p hp).1) few nd (by omega) fun h' tk M rows v tb S pm kk => PyProof.Rows.args_nil ?_
  have I2 : Inv X pins σ H1 { s1 with heap := h', toks := tk } := I1.kept fun b o e => kk b o e
  refine sortedW (s := { s1 with heap := h', toks := tk }) S (I1.ok.hd calm) (by rw [pm.length_eq]; exact few) d1 (fun p hp => (tups p (pm.mem_iff.mp hp)).2.2) fun s2 p out n k2 gg oo hp hout pmo srt => ?_
  have pmk : out.Perm (ks.map fun p => Value.ref p.1) := pmo.trans (pm.map _)
  have refs : ∀ u ∈ out, ∃ q ∈ ks, u = Value.ref q.1 := fun u hu => by
    obtain ⟨q, hq, e⟩ := List.mem_map.mp (pmk.mem_iff.mp hu)
    exact ⟨q, hq, e.symm⟩
  have hv : Vals (out.map backV) out := vals_back fun u hu => by
    obtain ⟨q, _, e⟩ := refs u hu
    exact ⟨q.1, e⟩
  have hlen : (out.map backV).length ≤ sizeLine := by
    rw [List.length_map, pmk.length_eq, List.length_map, sizeLine_eq]
    omega
  have hn : H1 p = none := I2.hok.fresh hp
  have J : Inv X pins σ (upd H1 p (.lst (out.map backV))) { ({ s1 with heap := h', toks := tk } : Shared) with heap := s2.heap, gens := s2.gens, drawn := s2.drawn, toks := s2.toks } :=
    I2.call (ch := []) (s := { s1 with heap := h', toks := tk }) (Un.laid k2 hp hn) (I2.hok.laid k2 hp ⟨hlen, out, n, hv, hout⟩) (by rw [gg]; exact I2.bare) (fun _ z => nomatch z)
  have e : s2 = { s1 with heap := s2.heap, gens := s2.gens, drawn := s2.drawn, toks := s2.toks } := by
    cases s2
    cases s1
    cases oo
    rfl
  rw [e]
  refine ⟨.ref p, _, J, rfl, q1 _ p ?_ ?_ hn⟩
  · have := pmk.map backV
    rw [List.map_map] at this
    exact this
  · show ((out.map backV).Pairwise _)
    rw [List.pairwise_map]
    have ik : ∀ u ∈ out, TS.intsOf s2.heap u = k (backV u) := fun u hu => by
      obtain ⟨q, hq, rfl⟩ := refs u hu
      obtain ⟨t1, t2, _⟩ := tups q hq
      have t3 : IsT X.prog X.w s2.heap q.2 q.1 := isT_keep (I1.isT t1) fun x o e => k2 x o (kk x o e)
      rw [(tupInts_of t3).ints]
      exact t2.symm
    refine List.Pairwise.imp_of_mem (fun {x y} hx hy hxy => ?_) srt
    dsimp only at hxy ⊢
    rw [ik x hx, ik y hy] at hxy
    exact hxy
end L2
namespace R
open PySem PySem.Spec PyProof.Rows L2
def kSortW (fz : Bool) (d : D) (h : PH) : Out D := match (getL h d).bind (optAll asInts) with
  | some ns => if okS ns = true ∧ ns.length ≤ 128 ∧ ns.Nodup then mkL fz ((sortS ns).map tupI) h else .stuck
  | none => .stuck
def eSortW (fz : Bool) (a : EM) (ρ : Rho) (h : PH) : Out D := (a ρ h).bind (kSortW fz)
theorem re_sortW {fz : Bool} {X : Cx} {E : XK} {e : Expr} {me : EM} {p p2 q pos : Pos} (calm : X.calm = true) (hu : X.A.units + 64 < cLine) (g1 : Gl X "sorted") (m1 : X.mg "sorted" = none) (g2 : Gl X "set") (m2 : X.mg "set" = none) (he : RE X E e me)
    (st : starEach [e] X.env = (false, eval e X.env) :: starEach [] X.env := by rfl) : RE X E (.Call (.Name "sorted" p) [.Call (.Name "set" p2) [e] [] q] [] pos) (eSortW fz me) :=
  PE.weak (pe_sortW calm hu g1 m1 g2 m2 he st) fun σ H Q ⟨S, ρ, h, sim, env, q⟩ => tG_seq sim env q fun x S1 H1 h1 d e1 s1 r1 env1 q1 => by
    unfold kSortW at q1
    split at q1
    · rename_i ns en
      split at q1
      · rename_i ok
        obtain ⟨ds, e1, e2⟩ := Option.bind_eq_some_iff.mp en
        obtain ⟨a, vs, rfl, t, rs⟩ := getL_ok s1 r1 e1
        have e3 := asInts_eq e2
        subst e3
        obtain ⟨h1, h2⟩ := tupsI_ok rs
        obtain ⟨d, hd, hb⟩ := okS_bd ok.1
        have mem : ∀ x ∈ vs, vInts H1 x ∈ ns := fun x hx => by rw [← h2]; exact List.mem_map.mpr ⟨x, hx, rfl⟩
        have all : ∀ (ws : List V), (∀ x ∈ ws, (∃ u, x = V.ref u ∧ TupZ H1 u ((vInts H1 x).map V.int)) ∧ vInts H1 x ∈ ns) → ∃ ks : List (Addr × List Int), ws = ks.map (fun p => V.ref p.1) ∧ (∀ p ∈ ks, SqT X.K H1 p.1 (p.2.map V.int) ∧ vInts H1 (V.ref p.1) = p.2 ∧ p.2.length = d ∧ TS.Bd (bdS ns) p.2) ∧ ks.map (·.2) = ws.map (vInts H1) := fun ws => by
          induction ws with
          | nil => exact fun _ => ⟨[], rfl, by simp, rfl⟩
          | cons x ws ih =>
            intro hx
            obtain ⟨⟨u, rfl, z⟩, xm⟩ := hx x (List.mem_cons_self ..)
            obtain ⟨ks, rfl, k1, k2⟩ := ih fun y hy => hx y (List.mem_cons_of_mem _ hy)
            refine ⟨(u, vInts H1 (.ref u)) :: ks, rfl, fun p hp => ?_, ?_⟩
            · rcases List.mem_cons.mp hp with rfl | hp
              · exact ⟨z.sq, rfl, hb _ xm⟩
              · exact k1 p hp
            · rw [List.map_cons, List.map_cons, k2]
        obtain ⟨ks, rfl, k1, k2⟩ := all vs fun x hx => ⟨h1 x hx, mem x hx⟩
        have e4 : ks.map (·.2) = ns := k2.trans h2
        have len : ns.length = ks.length := by rw [← e4, List.length_map]
        refine ⟨a, ks, vInts H1, d, bdS ns, rfl, t, k1, by rw [← len]; exact ok.2.1, by rw [e4]; exact ok.2.2, hd, fun ys p pm hs np => ?_⟩
        obtain ⟨es, pe, re⟩ := rs.perm pm
        obtain ⟨ms, rfl, pms⟩ := perm_map tupI (fun d => (asInts d).getD []) (fun s => by rw [asInts_tupI]; rfl) pe
        obtain ⟨h3, h4⟩ := tupsI_ok re
        have e8 : ms = sortS ns := sortS_eq pms (by
          rw [← h4, List.pairwise_map]
          have mem2 : ∀ y ∈ ys, vInts H1 y ∈ ns := fun y hy => mem y (pm.mem_iff.mp hy)
          refine List.Pairwise.imp_of_mem (fun {x y} hx hy hxy => ?_) hs
          obtain ⟨l1, b1⟩ := hb _ (mem2 x hx)
          obtain ⟨l2, b2⟩ := hb _ (mem2 y hy)
          unfold leS'
          rw [← code_lex (by omega) b2 b1]
          rw [show decide (TS.code (bdS ns) (vInts H1 y) < TS.code (bdS ns) (vInts H1 x)) = false from hxy]
          rfl)
        rw [e8] at re
        exact mkL_ok s1 re q1 np
      · exact q1.elim
    · exact q1.elim
/-! ### a, b, c = x, y, z, names of the def's own -/
def sPar3 (i j l : Nat) (mas : AM) (ρ : Rho) (h : PH) : Out Fl := (mas ρ h).bind fun ds h1 => match ds with
  | [a, b, c] => .ok (.nx (((ρ.set i (some a)).set j (some b)).set l (some c))) h1
  | _ => .stuck
theorem rs_par3 (i j l : Nat) {X : Cx} {E : XK} {x y z : Str} {a b d : Expr} {mas : AM} {px py pz pt pos : Pos} {kt k2 pt2} (c : Cok X E) (ha : RA X E [a, b, d] mas) (hi : X.N[i]? = some x := by rfl) (hj : X.N[j]? = some y := by rfl) (hl : X.N[l]? = some z := by rfl) (hij : i ≠ j := by decide) (hil : i ≠ l := by decide) (hjl : j ≠ l := by decide)
    (hx : X.env.scope.names.lookup x = some .local := by rfl) (hy : X.env.scope.names.lookup y = some .local := by rfl) (hz : X.env.scope.names.lookup z = some .local := by rfl)
    (hw : swappedStores [.Tuple [.Name x px, .Name y py, .Name z pz] kt pt] (.Tuple [a, b, d] k2 pt2) X.env = pure (some [x, y, z]) := by rfl)
    (hs : swapsWithSole [.Tuple [.Name x px, .Name y py, .Name z pz] kt pt] (.Tuple [a, b, d] k2 pt2) pos.line X.env = pure false := by rfl) :
    RS X E (.Assign [.Tuple [.Name x px, .Name y py, .Name z pz] kt pt] (.Tuple [a, b, d] k2 pt2) pos) (sPar3 i j l mas) :=
  PS.weak (ps_par3 c.calm c.nd hi hj hl hij hil hjl hx hy hz ha hw hs) fun D σ H ⟨S, ρ, h, sim, env, q⟩ => tG_seq sim env q fun vs S1 H1 h1 ds e1 s1 r1 env1 q1 => by
    split at q1
    · obtain ⟨v1, w1, rfl, ra, r2⟩ := r1
      obtain ⟨v2, w2, rfl, rb, r3⟩ := r2
      obtain ⟨v3, w3, rfl, rc, r4⟩ := r3
      have r4 : w3 = [] := r4
      subst r4
      exact ⟨v1, v2, v3, rfl, Post.get (b := VF.nx _) q1 s1 (((env1.set ra).set rb).set rc)⟩
    · exact q1.elim
end R
namespace R
open PySem PySem.Spec PyProof.Rows L2
def b_is_whole : SM := sRet (eAnd (eCallB fIsi (aCons (eVar 0) (aCons (eC (.ty .int)) (aNil)))) (eNot (eCallB fIsi (aCons (eVar 0) (aCons (eC (.ty .bool)) (aNil))))))
def m_is_whole : List D → Res := fnP 1 1 b_is_whole
def b_is_among : SM := sRet (eAnd (eCallP m_is_whole (aCons (eVar 0) (aNil))) (eChain oLe oLe (eVar 1) (eVar 0) (eVar 2)))
def m_is_among : List D → Res := fnP 3 3 b_is_among
def b_is_stay : SM := sRet (eOr (eIsN (eVar 0)) (eCallP m_is_among (aCons (eVar 0) (aCons (eC (.int 0)) (aCons (eC (.int 1)) (aNil))))))
def m_is_stay : List D → Res := fnP 1 1 b_is_stay
def b_look_at_tie : SM := sSeq (sSet 2 (eCallB fLen (aCons (eVar 1) (aNil)))) (
  sSeq (sIf (tOrM (tNotM (tVal (eCallB fIsi (aCons (eVar 0) (aCons (eC (.ty .tup)) (aNil)))))) (tOrM (tVal (eBin oNe (eCallB fLen (aCons (eVar 0) (aNil))) (eC (.int 3)))) (tNotM (tVal (eCallP m_is_among (aCons (eBin oIx (eVar 0) (eC (.int 2))) (aCons (eC (.int 1)) (aCons (eC (.int 400)) (aNil))))))))) (sRaise "NoWeb") (sNil)) (
  sSeq (sIf (tOrM (tNotM (tVal (eCallP m_is_among (aCons (eBin oIx (eVar 0) (eC (.int 0))) (aCons (eC (.int 0)) (aCons (eBin oSub (eVar 2) (eC (.int 1))) (aNil))))))) (tNotM (tVal (eCallP m_is_among (aCons (eBin oIx (eVar 0) (eC (.int 1))) (aCons (eC (.int 0)) (aCons (eBin oSub (eVar 2) (eC (.int 1))) (aNil)))))))) (sRaise "NoWeb") (sNil)) (
  sIf (tOrM (tVal (eBin oEq (eBin oIx (eVar 0) (eC (.int 0))) (eBin oIx (eVar 0) (eC (.int 1))))) (tVal (eBin (oDIn false) (eBin oIx (eVar 0) (eC (.int 1))) (eBin oIx (eVar 1) (eBin oIx (eVar 0) (eC (.int 0))))))) (sRaise "NoWeb") (sNil))))
def m_look_at_tie : List D → PH → Out D := fnM 2 3 b_look_at_tie
def g1_ties_of : GM := gNm 4
def e1_ties_of : EM := eDct
def g2_ties_of : GM := gNm 3
def w2_ties_of : SM := sSeq (sExpr (eCallM m_look_at_tie (aCons (eVar 3) (aCons (eVar 2) (aNil))))) (
  sSeq (sDPutM (eBin oIx (eVar 2) (eBin oIx (eVar 3) (eC (.int 0)))) (eBin oIx (eVar 3) (eC (.int 1))) (eBin oIx (eVar 3) (eC (.int 2)))) (
  sDPutM (eBin oIx (eVar 2) (eBin oIx (eVar 3) (eC (.int 1)))) (eBin oIx (eVar 3) (eC (.int 0))) (eBin oIx (eVar 3) (eC (.int 2)))))
def g3_ties_of : GM := gNm 6
def e3_ties_of : EM := eTup (aCons (eVar 6) (aCons (eBin oDGet (eVar 5) (eVar 6)) (aNil)))
def g4_ties_of : GM := gNm 5
def e4_ties_of : EM := eCallB fTuple (aCons (eLC true (iS (eCallB (fSortD true) (aCons (eVar 5) (aNil)))) (g3_ties_of) (tTrue) (e3_ties_of) [6]) (aNil))
def b_ties_of : SM := sSeq (sIf (tOrM (tNotM (tVal (eCallP m_is_among (aCons (eVar 0) (aCons (eC (.int 1)) (aCons (eC (.int 30)) (aNil))))))) (tNotM (tVal (eCallB fIsi (aCons (eVar 1) (aCons (eC (.ty .lst)) (aNil))))))) (sRaise "NoWeb") (sNil)) (
  sSeq (sSet 2 (eLC false (iR1 (aCons (eVar 0) (aNil))) (g1_ties_of) (tTrue) (e1_ties_of) [4])) (
  sSeq (sFor (iS (eVar 1)) (g2_ties_of) (w2_ties_of)) (
  sRet (eCallB fTuple (aCons (eLC true (iS (eVar 2)) (g4_ties_of) (tTrue) (e4_ties_of) [5]) (aNil))))))
def m_ties_of : List D → Res := fnP 2 7 b_ties_of
def c_told_of_is_one : Str → Option (List D → Res) := fun x => if x = "is_whole" then some m_is_whole else if x = "is_stay" then some m_is_stay else none
def g1_told_of : GM := gNm 3
def w1_told_of : SM := sIf (tNotM (tVal (eCallL 2 c_told_of_is_one (aCons (eVar 3) (aNil))))) (sRaise "NoWeb") (sNil)
def b_told_of : SM := sSeq (sIf (tOrM (tNotM (tVal (eCallB fIsi (aCons (eVar 0) (aCons (eC (.ty .lst)) (aNil)))))) (tVal (eBin oNe (eCallB fLen (aCons (eVar 0) (aNil))) (eVar 1)))) (sRaise "NoWeb") (sNil)) (
  sSeq (sFor (iS (eVar 0)) (g1_told_of) (w1_told_of)) (
  sRet (eCallB fTuple (aCons (eVar 0) (aNil)))))
def m_told_of : List D → Res := fnP 3 4 b_told_of
def g1_sum_of : GM := gTp 2 (gsCons (gNm 1) (gsCons (gNm 2) (gsNil)))
def e1_sum_of : EM := eVar 2
def b_sum_of : SM := sRet (eCallB fSum (aCons (eLC true (iS (eVar 0)) (g1_sum_of) (tTrue) (e1_sum_of) [1, 2]) (aNil)))
def m_sum_of : List D → Res := fnP 1 3 b_sum_of
def g1_web_of : GM := gNm 7
def e1_web_of : EM := eCallP m_sum_of (aCons (eVar 7) (aNil))
def b_web_of : SM := sSeq (sSet 4 (eCallP m_ties_of (aCons (eVar 0) (aCons (eVar 1) (aNil))))) (
  sSeq (sSet 5 (eCallB fTuple (aCons (eLC true (iS (eVar 4)) (g1_web_of) (tTrue) (e1_web_of) [7]) (aNil)))) (
  sSeq (sIf (tVal (eNotN (eVar 2))) (sSet 5 (eCallP m_told_of (aCons (eVar 2) (aCons (eVar 0) (aCons (eC (.gl "is_whole")) (aNil)))))) (sNil)) (
  sSeq (sSet 6 (eBin (oMul true) (eTup (aCons (eC .non) (aNil))) (eVar 0))) (
  sSeq (sIf (tVal (eNotN (eVar 3))) (sSet 6 (eCallP m_told_of (aCons (eVar 3) (aCons (eVar 0) (aCons (eC (.gl "is_stay")) (aNil)))))) (sNil)) (
  sRet (eTup (aCons (eVar 4) (aCons (eVar 5) (aCons (eVar 6) (aNil))))))))))
def m_web_of : List D → Res := fnP 4 8 b_web_of
def b_weights_of : SM := sRet (eCallP m_sum_of (aCons (eBin oIx (eBin oIx (eVar 0) (eC (.int 0))) (eVar 1)) (aNil)))
def m_weights_of : List D → Res := fnP 2 2 b_weights_of
def g1_fits : GM := gTp 2 (gsCons (gNm 2) (gsCons (gNm 3) (gsNil)))
def w1_fits : SM := sIf (tOrM (tNotM (tVal (eCallP m_is_among (aCons (eVar 2) (aCons (eC (.int 0)) (aCons (eC (.int 1)) (aNil))))))) (tAndM (tVal (eNotN (eVar 3))) (tVal (eBin oNe (eVar 2) (eVar 3))))) (sRet (eC (.bl false))) (sNil)
def b_fits : SM := sSeq (sIf (tOrM (tNotM (tVal (eCallB fIsi (aCons (eVar 1) (aCons (eC (.ty .tup)) (aNil)))))) (tVal (eBin oNe (eCallB fLen (aCons (eVar 1) (aNil))) (eCallB fLen (aCons (eBin oIx (eVar 0) (eC (.int 0))) (aNil)))))) (sRet (eC (.bl false))) (sNil)) (
  sSeq (sFor (iZ (aCons (eVar 1) (aCons (eBin oIx (eVar 0) (eC (.int 2))) (aNil)))) (g1_fits) (w1_fits)) (
  sRet (eC (.bl true))))
def m_fits : List D → Res := fnP 2 4 b_fits
def b_ask_stand : SM := sIf (tNotM (tVal (eCallP m_fits (aCons (eVar 0) (aCons (eVar 1) (aNil)))))) (sRaise "NoStand") (sNil)
def m_ask_stand : List D → Res := fnP 2 2 b_ask_stand
def g1_pulled : GM := gTp 2 (gsCons (gNm 3) (gsCons (gNm 4) (gsNil)))
def t1_pulled : TM := tVal (eBin oEq (eBin oIx (eVar 1) (eVar 3)) (eC (.int 1)))
def e1_pulled : EM := eVar 4
def b_pulled : SM := sRet (eBin (oMul true) (eC (.int 2)) (eCallB fSum (aCons (eLC true (iS (eBin oIx (eBin oIx (eVar 0) (eC (.int 0))) (eVar 2))) (g1_pulled) (t1_pulled) (e1_pulled) [3, 4]) (aNil))))
def m_pulled : List D → Res := fnP 3 5 b_pulled
def b_turned : SM := sSeq (sIf (tVal (eNotN (eBin oIx (eBin oIx (eVar 0) (eC (.int 2))) (eVar 2)))) (sRet (eBin oIx (eBin oIx (eVar 0) (eC (.int 2))) (eVar 2))) (sNil)) (
  sSeq (sSet 3 (eCallP m_pulled (aCons (eVar 0) (aCons (eVar 1) (aCons (eVar 2) (aNil)))))) (
  sSeq (sIf (tVal (eBin oEq (eVar 3) (eBin oIx (eBin oIx (eVar 0) (eC (.int 1))) (eVar 2)))) (sRet (eBin oIx (eVar 1) (eVar 2))) (sNil)) (
  sRet (eCallB fInt (aCons (eBin oGt (eVar 3) (eBin oIx (eBin oIx (eVar 0) (eC (.int 1))) (eVar 2))) (aNil))))))
def m_turned : List D → Res := fnP 3 4 b_turned
def g1_turn : GM := gNm 2
def e1_turn : EM := eCallP m_turned (aCons (eVar 0) (aCons (eVar 1) (aCons (eVar 2) (aNil))))
def b_turn : SM := sSeq (sExpr (eCallP m_ask_stand (aCons (eVar 0) (aCons (eVar 1) (aNil))))) (
  sRet (eCallB fTuple (aCons (eLC true (iR1 (aCons (eCallB fLen (aCons (eVar 1) (aNil))) (aNil))) (g1_turn) (tTrue) (e1_turn) [2]) (aNil))))
def m_turn : List D → Res := fnP 2 3 b_turn
def g1_history : GM := gNm 4
def w1_history : SM := sExpr (eBM .lst fAppend (eVar 3) (aCons (eCallP m_turn (aCons (eVar 0) (aCons (eBin oIx (eVar 3) (eUn oNeg (eC (.int 1)))) (aNil)))) (aNil)))
def b_history : SM := sSeq (sExpr (eCallP m_ask_stand (aCons (eVar 0) (aCons (eVar 1) (aNil))))) (
  sSeq (sIf (tVal (eBin oGt (eVar 2) (eC (.int 400)))) (sRaise "TooLong") (sNil)) (
  sSeq (sSet 3 (eLst false (aCons (eVar 1) (aNil)))) (
  sSeq (sFor (iR1 (aCons (eVar 2) (aNil))) (g1_history) (w1_history)) (
  sRet (eVar 3)))))
def m_history : List D → Res := fnP 3 5 b_history
def b_ask_person : SM := sIf (tNotM (tVal (eCallP m_is_among (aCons (eVar 1) (aCons (eC (.int 0)) (aCons (eBin oSub (eCallB fLen (aCons (eBin oIx (eVar 0) (eC (.int 0))) (aNil))) (eC (.int 1))) (aNil))))))) (sRaise "NoWeb") (sNil)
def m_ask_person : List D → Res := fnP 2 2 b_ask_person
def b_put_at : SM := sRet (eBin (oAdd true) (eBin (oAdd true) (eSl true (eVar 0) oNone (oSome (eVar 1))) (eTup (aCons (eVar 2) (aNil)))) (eSl true (eVar 0) (oSome (eBin (oAdd true) (eVar 1) (eC (.int 1)))) oNone))
def m_put_at : List D → Res := fnP 3 3 b_put_at
def g1_tied_to : GM := gNm 4
def t1_tied_to : TM := tVal (eBin oNe (eBin oIx (eVar 4) (eC (.int 0))) (eVar 1))
def e1_tied_to : EM := eVar 4
def b_tied_to : SM := sSeq (sSet 3 (eLC false (iS (eVar 0)) (g1_tied_to) (t1_tied_to) (e1_tied_to) [4])) (
  sSeq (sIf (tVal (eBin oGt (eVar 2) (eC (.int 0)))) (sExpr (eBM .lst fAppend (eVar 3) (aCons (eTup (aCons (eVar 1) (aCons (eVar 2) (aNil)))) (aNil)))) (sNil)) (
  sRet (eCallB fTuple (aCons (eCallB (fSortP true) (aCons (eVar 3) (aNil))) (aNil)))))
def m_tied_to : List D → Res := fnP 3 5 b_tied_to
def b_with_tie : SM := sSeq (sExpr (eCallP m_ask_person (aCons (eVar 0) (aCons (eVar 1) (aNil))))) (
  sSeq (sExpr (eCallP m_ask_person (aCons (eVar 0) (aCons (eVar 2) (aNil))))) (
  sSeq (sIf (tOrM (tVal (eBin oEq (eVar 1) (eVar 2))) (tNotM (tVal (eCallP m_is_among (aCons (eVar 3) (aCons (eC (.int 0)) (aCons (eC (.int 400)) (aNil)))))))) (sRaise "NoWeb") (sNil)) (
  sSeq (sSet 4 (eCallP m_put_at (aCons (eBin oIx (eVar 0) (eC (.int 0))) (aCons (eVar 1) (aCons (eCallP m_tied_to (aCons (eBin oIx (eBin oIx (eVar 0) (eC (.int 0))) (eVar 1)) (aCons (eVar 2) (aCons (eVar 3) (aNil))))) (aNil)))))) (
  sSeq (sSet 4 (eCallP m_put_at (aCons (eVar 4) (aCons (eVar 2) (aCons (eCallP m_tied_to (aCons (eBin oIx (eBin oIx (eVar 0) (eC (.int 0))) (eVar 2)) (aCons (eVar 1) (aCons (eVar 3) (aNil))))) (aNil)))))) (
  sRet (eTup (aCons (eVar 4) (aCons (eBin oIx (eVar 0) (eC (.int 1))) (aCons (eBin oIx (eVar 0) (eC (.int 2))) (aNil))))))))))
def m_with_tie : List D → Res := fnP 4 5 b_with_tie
def b_with_bar : SM := sSeq (sExpr (eCallP m_ask_person (aCons (eVar 0) (aCons (eVar 1) (aNil))))) (
  sSeq (sIf (tNotM (tVal (eCallP m_is_whole (aCons (eVar 2) (aNil))))) (sRaise "NoWeb") (sNil)) (
  sRet (eTup (aCons (eBin oIx (eVar 0) (eC (.int 0))) (aCons (eCallP m_put_at (aCons (eBin oIx (eVar 0) (eC (.int 1))) (aCons (eVar 1) (aCons (eVar 2) (aNil))))) (aCons (eBin oIx (eVar 0) (eC (.int 2))) (aNil)))))))
def m_with_bar : List D → Res := fnP 3 3 b_with_bar
def b_with_stay : SM := sSeq (sExpr (eCallP m_ask_person (aCons (eVar 0) (aCons (eVar 1) (aNil))))) (
  sSeq (sIf (tNotM (tVal (eCallP m_is_stay (aCons (eVar 2) (aNil))))) (sRaise "NoWeb") (sNil)) (
  sRet (eTup (aCons (eBin oIx (eVar 0) (eC (.int 0))) (aCons (eBin oIx (eVar 0) (eC (.int 1))) (aCons (eCallP m_put_at (aCons (eBin oIx (eVar 0) (eC (.int 2))) (aCons (eVar 1) (aCons (eVar 2) (aNil))))) (aNil)))))))
def m_with_stay : List D → Res := fnP 3 3 b_with_stay
def g1_differ : GM := gNm 9
def w1_differ : SM := sIf (tVal (eBin oNe (eBin oIx (eBin oIx (eVar 8) (eC (.int 0))) (eVar 9)) (eBin oIx (eBin oIx (eVar 8) (eC (.int 1))) (eVar 9)))) (sExpr (eBM .lst fAppend (eVar 5) (aCons (eTup (aCons (eVar 7) (aCons (eVar 9) (aNil)))) (aNil)))) (sNil)
def g2_differ : GM := gTp 2 (gsCons (gNm 7) (gsCons (gNm 8) (gsNil)))
def w2_differ : SM := sFor (iR1 (aCons (eCallB fLen (aCons (eVar 1) (aNil))) (aNil))) (g1_differ) (w1_differ)
def b_differ : SM := sSeq (sSet 5 (eLst false (aNil))) (
  sSeq (sSet 6 (eLZip true (aCons (eCallP m_history (aCons (eVar 0) (aCons (eVar 1) (aCons (eVar 4) (aNil))))) (aCons (eCallP m_history (aCons (eVar 2) (aCons (eVar 3) (aCons (eVar 4) (aNil))))) (aNil))))) (
  sSeq (sFor (iE (aCons (eVar 6) (aNil))) (g2_differ) (w2_differ)) (
  sRet (eVar 5))))
def m_differ : List D → Res := fnP 5 10 b_differ
def b_other_of : SM := sSeq (sIf (tVal (eIsN (eVar 0))) (sRet (eC .non)) (sNil)) (
  sRet (eBin oSub (eC (.int 1)) (eVar 0)))
def m_other_of : List D → Res := fnP 1 1 b_other_of
def g1_exchanged_stand : GM := gNm 1
def e1_exchanged_stand : EM := eCallP m_other_of (aCons (eVar 1) (aNil))
def b_exchanged_stand : SM := sRet (eCallB fTuple (aCons (eLC true (iS (eVar 0)) (g1_exchanged_stand) (tTrue) (e1_exchanged_stand) [1]) (aNil)))
def m_exchanged_stand : List D → Res := fnP 1 2 b_exchanged_stand
def g1_exchanged : GM := gNm 2
def e1_exchanged : EM := eBin oSub (eBin (oMul true) (eC (.int 2)) (eCallP m_weights_of (aCons (eVar 0) (aCons (eVar 2) (aNil))))) (eBin oIx (eBin oIx (eVar 0) (eC (.int 1))) (eVar 2))
def b_exchanged : SM := sSeq (sSet 1 (eLC true (iR1 (aCons (eCallB fLen (aCons (eBin oIx (eVar 0) (eC (.int 0))) (aNil))) (aNil))) (g1_exchanged) (tTrue) (e1_exchanged) [2])) (
  sRet (eTup (aCons (eBin oIx (eVar 0) (eC (.int 0))) (aCons (eCallB fTuple (aCons (eVar 1) (aNil))) (aCons (eCallP m_exchanged_stand (aCons (eBin oIx (eVar 0) (eC (.int 2))) (aNil))) (aNil))))))
def m_exchanged : List D → Res := fnP 1 3 b_exchanged
def b__law_state : SM := sSeq (sSet 2 (eC (.int 0))) (
  sSeq (sIf (tVal (eBin oLt (eVar 1) (eCallB fLen (aCons (eVar 0) (aNil))))) (sSet 2 (eBin oIx (eVar 0) (eVar 1))) (sNil)) (
  sSeq (sSet 3 (eOr (eBin oEq (eCallB fLen (aCons (eVar 0) (aNil))) (eC (.int 0))) (eBin oEq (eBin oMod (eBin oIx (eVar 0) (eC (.int 0))) (eC (.int 2))) (eC (.int 1))))) (
  sSeq (sIf (tVal (eVar 3)) (sSet 2 (eBin (oAdd true) (eBin oMod (eVar 2) (eC (.int 2147483647))) (eBin (oMul true) (eC (.int 1000003)) (eVar 1)))) (sNil)) (
  sRet (eLst true (aCons (eVar 2) (aCons (eC (.int 0)) (aCons (eVar 3) (aNil)))))))))
def m__law_state : List D → Res := fnP 2 4 b__law_state
def b__law_digit : SM := sSeq (sAsg (eBin (oAdd true) (eBin oIx (eVar 0) (eC (.int 1))) (eC (.int 1))) (gSb (eVar 0) (eC (.int 1)))) (
  sSeq (sIf (tVal (eBin oIx (eVar 0) (eC (.int 2)))) (sSeq (sSet 3 (eBin oMod (eBin (oMul true) (eBin (oAdd true) (eBin (oAdd true) (eBin oIx (eVar 0) (eC (.int 0))) (eBin (oMul true) (eC (.int 7919)) (eBin oIx (eVar 0) (eC (.int 1))))) (eC (.int 1))) (eC (.int 48271))) (eC (.int 2147483647)))) (
  sSeq (sSet 3 (eBin oMod (eBin (oMul true) (eVar 3) (eBin (oAdd true) (eBin oMod (eVar 3) (eC (.int 65521))) (eBin oIx (eVar 0) (eC (.int 1))))) (eC (.int 2147483629)))) (
  sRet (eBin oMod (eBin oMod (eBin (oAdd true) (eBin (oMul true) (eVar 3) (eVar 3)) (eBin (oMul true) (eC (.int 69621)) (eVar 3))) (eC (.int 2147483563))) (eVar 1))))) (sNil)) (
  sSeq (sSet 2 (eBin oMod (eBin oIx (eVar 0) (eC (.int 0))) (eVar 1))) (
  sSeq (sAsg (eBin oFdiv (eBin oIx (eVar 0) (eC (.int 0))) (eVar 1)) (gSb (eVar 0) (eC (.int 0)))) (
  sRet (eVar 2)))))
def m__law_digit : List D → PH → Out D := fnM 2 4 b__law_digit
def b__law_bar : SM := sSeq (sIf (tVal (eBin oEq (eVar 0) (eC (.int 0)))) (sRet (eVar 2)) (sNil)) (
  sSeq (sIf (tVal (eBin oEq (eVar 0) (eC (.int 1)))) (sRet (eBin oSub (eVar 1) (eC (.int 60)))) (sNil)) (
  sSeq (sIf (tVal (eBin oEq (eVar 0) (eC (.int 2)))) (sRet (eBin oSub (eBin (oAdd true) (eVar 2) (eBin oMod (eVar 1) (eC (.int 5)))) (eC (.int 2)))) (sNil)) (
  sSeq (sIf (tVal (eBin oEq (eVar 0) (eC (.int 3)))) (sRet (eBin (oMul true) (eC (.int 2)) (eBin oMod (eVar 1) (eBin (oAdd true) (eVar 2) (eC (.int 1)))))) (sNil)) (
  sRet (eBin (oMul true) (eBin (oAdd true) (eBin oPow (eC (.int 10)) (eC (.int 59))) (eVar 1)) (eBin oIx (eLst true (aCons (eC (.int 1)) (aCons (eUn oNeg (eC (.int 1))) (aNil)))) (eBin oMod (eVar 1) (eC (.int 2)))))))))
def m__law_bar : List D → Res := fnP 3 3 b__law_bar
def g1__law_people : GM := gNm 10
def w1__law_people : SM := sIf (tVal (eBin oEq (eCallM m__law_digit (aCons (eVar 9) (aCons (eVar 3) (aNil)))) (eC (.int 0)))) (sSeq (sSet 11 (eBin (oAdd true) (eC (.int 1)) (eCallM m__law_digit (aCons (eVar 9) (aCons (eBin oIx (eLst true (aCons (eC (.int 3)) (aCons (eC (.int 99)) (aNil)))) (eCallM m__law_digit (aCons (eVar 9) (aCons (eC (.int 2)) (aNil))))) (aNil)))))) (
  sSeq (sExpr (eBM .lst fInsert (eVar 4) (aCons (eCallM m__law_digit (aCons (eVar 9) (aCons (eBin (oAdd true) (eCallB fLen (aCons (eVar 4) (aNil))) (eC (.int 1))) (aNil)))) (aCons (eBin oIx (eLst true (aCons (eTup (aCons (eVar 8) (aCons (eVar 10) (aCons (eVar 11) (aNil))))) (aCons (eTup (aCons (eVar 10) (aCons (eVar 8) (aCons (eVar 11) (aNil))))) (aNil)))) (eBin oMod (eVar 11) (eC (.int 2)))) (aNil))))) (
  sSeq (sAsg (eBin (oAdd true) (eBin oIx (eVar 7) (eVar 8)) (eVar 11)) (gSb (eVar 7) (eVar 8))) (
  sAsg (eBin (oAdd true) (eBin oIx (eVar 7) (eVar 10)) (eVar 11)) (gSb (eVar 7) (eVar 10)))))) (sNil)
def g2__law_people : GM := gNm 8
def w2__law_people : SM := sSeq (sSet 9 (eCallT m__law_state (aCons (eVar 0) (aCons (eBin (oAdd true) (eC (.int 1)) (eVar 8)) (aNil))))) (
  sSeq (sExpr (eBM .lst fAppend (eVar 6) (aCons (eBin oIx (eLst true (aCons (eC .non) (aCons (eC .non) (aCons (eC .non) (aCons (eC (.int 0)) (aCons (eC (.int 1)) (aNil))))))) (eCallM m__law_digit (aCons (eVar 9) (aCons (eC (.int 5)) (aNil))))) (aNil)))) (
  sSeq (sExpr (eBM .lst fAppend (eVar 5) (aCons (eTup (aCons (eCallM m__law_digit (aCons (eVar 9) (aCons (eC (.int 5)) (aNil)))) (aCons (eCallM m__law_digit (aCons (eVar 9) (aCons (eC (.int 200)) (aNil)))) (aNil)))) (aNil)))) (
  sFor (iR1 (aCons (eVar 8) (aNil))) (g1__law_people) (w1__law_people))))
def g3__law_people : GM := gNm 8
def e3__law_people : EM := eCallP m__law_bar (aCons (eBin oIx (eBin oIx (eVar 5) (eVar 8)) (eC (.int 0))) (aCons (eBin oIx (eBin oIx (eVar 5) (eVar 8)) (eC (.int 1))) (aCons (eBin oIx (eVar 7) (eVar 8)) (aNil))))
def b__law_people : SM := sSeq (sSet 1 (eCallT m__law_state (aCons (eVar 0) (aCons (eC (.int 0)) (aNil))))) (
  sSeq (sExpr (eCallM m__law_digit (aCons (eVar 1) (aCons (eC (.int 2)) (aNil))))) (
  sSeq (sSet 2 (eBin (oAdd true) (eC (.int 1)) (eCallM m__law_digit (aCons (eVar 1) (aCons (eBin oIx (eLst true (aCons (eC (.int 4)) (aCons (eC (.int 8)) (aCons (eC (.int 16)) (aNil))))) (eCallM m__law_digit (aCons (eVar 1) (aCons (eC (.int 3)) (aNil))))) (aNil)))))) (
  sSeq (sSet 3 (eBin oIx (eLst true (aCons (eC (.int 1)) (aCons (eC (.int 2)) (aCons (eC (.int 5)) (aNil))))) (eCallM m__law_digit (aCons (eVar 1) (aCons (eC (.int 3)) (aNil)))))) (
  sSeq (sSet 4 (eLst false (aNil))) (
  sSeq (sSet 5 (eLst false (aNil))) (
  sSeq (sSet 6 (eLst false (aNil))) (
  sSeq (sSet 7 (eBin (oMul false) (eLst true (aCons (eC (.int 0)) (aNil))) (eVar 2))) (
  sSeq (sFor (iR1 (aCons (eVar 2) (aNil))) (g2__law_people) (w2__law_people)) (
  sSeq (sSet 5 (eLC false (iR1 (aCons (eVar 2) (aNil))) (g3__law_people) (tTrue) (e3__law_people) [8])) (
  sRet (eTup (aCons (eVar 2) (aCons (eVar 4) (aCons (eVar 5) (aCons (eVar 6) (aCons (eVar 7) (aNil)))))))))))))))))
def m__law_people : List D → Res := fnP 1 12 b__law_people
def g1__law_stand : GM := gNm 5
def w1__law_stand : SM := sSeq (sSet 6 (eCallM m__law_digit (aCons (eVar 3) (aCons (eC (.int 2)) (aNil))))) (
  sSeq (sIf (tVal (eNotN (eVar 5))) (sSet 6 (eVar 5)) (sNil)) (
  sExpr (eBM .lst fAppend (eVar 4) (aCons (eVar 6) (aNil)))))
def b__law_stand : SM := sSeq (sSet 3 (eCallT m__law_state (aCons (eVar 0) (aCons (eVar 1) (aNil))))) (
  sSeq (sSet 4 (eLst false (aNil))) (
  sSeq (sFor (iS (eVar 2)) (g1__law_stand) (w1__law_stand)) (
  sRet (eCallB fTuple (aCons (eVar 4) (aNil))))))
def m__law_stand : List D → Res := fnP 3 7 b__law_stand
def g1__law_old : GM := gNm 4
def t1__law_old : TM := tVal (eBin oEq (eCallB (fSortIT true) (aCons (eSl true (eVar 4) oNone (oSome (eC (.int 2)))) (aNil))) (eCallB (fSortI true) (aCons (eLst true (aCons (eVar 1) (aCons (eVar 2) (aNil)))) (aNil))))
def e1__law_old : EM := eBin oIx (eVar 4) (eC (.int 2))
def b__law_old : SM := sSeq (sSet 3 (eLC true (iS (eVar 0)) (g1__law_old) (t1__law_old) (e1__law_old) [4])) (
  sRet (eBin oIx (eBin (oAdd true) (eVar 3) (eLst true (aCons (eC (.int 0)) (aNil)))) (eC (.int 0))))
def m__law_old : List D → Res := fnP 3 5 b__law_old
def g1__law_for_ones : GM := gNm 15
def t1__law_for_ones : TM := tVal (eBin oNe (eCallB (fSortIT true) (aCons (eSl true (eVar 15) oNone (oSome (eC (.int 2)))) (aNil))) (eCallB (fSortI true) (aCons (eLst true (aCons (eVar 5) (aCons (eVar 12) (aNil)))) (aNil))))
def e1__law_for_ones : EM := eVar 15
def b__law_for_ones : SM := sSeq (sAsg (eVar 0) (gTp 5 (gsCons (gNm 7) (gsCons (gNm 8) (gsCons (gNm 9) (gsCons (gNm 10) (gsCons (gNm 11) (gsNil)))))))) (
  sSeq (sSet 4 (eCallM m__law_digit (aCons (eVar 3) (aCons (eC (.int 3)) (aNil))))) (
  sSeq (sSet 5 (eCallM m__law_digit (aCons (eVar 3) (aCons (eVar 7) (aNil))))) (
  sSeq (sSet 6 (eCallM m__law_digit (aCons (eVar 3) (aCons (eC (.int 40)) (aNil))))) (
  sSeq (sIf (tAndM (tVal (eBin oEq (eVar 4) (eC (.int 0)))) (tVal (eBin oGt (eVar 7) (eC (.int 1))))) (sSeq (sSet 12 (eBin oMod (eBin (oAdd true) (eBin (oAdd true) (eVar 5) (eC (.int 1))) (eCallM m__law_digit (aCons (eVar 3) (aCons (eBin oSub (eVar 7) (eC (.int 1))) (aNil))))) (eVar 7))) (
  sSeq (sSet 13 (eCallB fMin2 (aCons (eC (.int 400)) (aCons (eBin (oAdd true) (eCallP m__law_old (aCons (eVar 8) (aCons (eVar 5) (aCons (eVar 12) (aNil))))) (eVar 6)) (aNil))))) (
  sSeq (sSet 8 (eLC true (iS (eVar 8)) (g1__law_for_ones) (t1__law_for_ones) (e1__law_for_ones) [15])) (
  sSeq (sIf (tVal (eBin oGt (eVar 13) (eC (.int 0)))) (sSet 8 (eBin (oAdd true) (eVar 8) (eLst true (aCons (eTup (aCons (eVar 5) (aCons (eVar 12) (aCons (eVar 13) (aNil))))) (aNil))))) (sNil)) (
  sSet 1 (eCallP m_with_tie (aCons (eVar 1) (aCons (eVar 5) (aCons (eVar 12) (aCons (eVar 13) (aNil))))))))))) (sIf (tVal (eBin oEq (eVar 4) (eC (.int 1)))) (sSeq (sSet 9 (eBin (oAdd true) (eBin (oAdd true) (eSl true (eVar 9) oNone (oSome (eVar 5))) (eLst true (aCons (eBin oSub (eBin oIx (eVar 9) (eVar 5)) (eVar 6)) (aNil)))) (eSl true (eVar 9) (oSome (eBin (oAdd true) (eVar 5) (eC (.int 1)))) oNone))) (
  sSet 1 (eCallP m_with_bar (aCons (eVar 1) (aCons (eVar 5) (aCons (eBin oIx (eVar 9) (eVar 5)) (aNil))))))) (sSeq (sSet 14 (eBin oIx (eLst true (aCons (eC (.int 1)) (aCons (eC .non) (aNil)))) (eCallB fInt (aCons (eBin oEq (eBin oIx (eVar 10) (eVar 5)) (eC (.int 0))) (aNil))))) (
  sSeq (sSet 10 (eBin (oAdd true) (eBin (oAdd true) (eSl true (eVar 10) oNone (oSome (eVar 5))) (eLst true (aCons (eVar 14) (aNil)))) (eSl true (eVar 10) (oSome (eBin (oAdd true) (eVar 5) (eC (.int 1)))) oNone))) (
  sSeq (sSet 1 (eCallP m_with_stay (aCons (eVar 1) (aCons (eVar 5) (aCons (eVar 14) (aNil)))))) (
  sIf (tVal (eBin oEq (eVar 14) (eC (.int 1)))) (sSet 2 (eBin (oAdd true) (eBin (oAdd true) (eSl true (eVar 2) oNone (oSome (eVar 5))) (eTup (aCons (eC (.int 1)) (aNil)))) (eSl true (eVar 2) (oSome (eBin (oAdd true) (eVar 5) (eC (.int 1)))) oNone))) (sNil))))))) (
  sRet (eTup (aCons (eTup (aCons (eVar 7) (aCons (eVar 8) (aCons (eVar 9) (aCons (eVar 10) (aCons (eVar 11) (aNil))))))) (aCons (eVar 1) (aCons (eVar 2) (aNil))))))))))
def m__law_for_ones : List D → PH → Out D := fnM 4 16 b__law_for_ones
def g1__law_apart : GM := gNm 7
def w1__law_apart : SM := sSeq (sIf (tVal (eBin oGt (eBin oIx (eVar 1) (eVar 7)) (eBin oIx (eVar 3) (eVar 7)))) (sRet (eC .non)) (sNil)) (
  sIf (tVal (eBin oNe (eBin oIx (eVar 1) (eVar 7)) (eBin oIx (eVar 3) (eVar 7)))) (sExpr (eBM .lst fAppend (eVar 5) (aCons (eTup (aCons (eVar 6) (aCons (eVar 7) (aNil)))) (aNil)))) (sNil))
def g2__law_apart : GM := gNm 6
def w2__law_apart : SM := sSeq (sFor (iR1 (aCons (eCallB fLen (aCons (eVar 1) (aNil))) (aNil))) (g1__law_apart) (w1__law_apart)) (
  sSeq (sSet 1 (eCallP m_turn (aCons (eVar 0) (aCons (eVar 1) (aNil))))) (
  sSet 3 (eCallP m_turn (aCons (eVar 2) (aCons (eVar 3) (aNil))))))
def b__law_apart : SM := sSeq (sSet 5 (eLst false (aNil))) (
  sSeq (sFor (iR1 (aCons (eBin (oAdd true) (eVar 4) (eC (.int 1))) (aNil))) (g2__law_apart) (w2__law_apart)) (
  sRet (eVar 5)))
def m__law_apart : List D → Res := fnP 5 8 b__law_apart
def g1_law : GM := gNm 7
def w1_law : SM := sSeq (sAsg (eCallM m__law_for_ones (aCons (eVar 1) (aCons (eVar 2) (aCons (eVar 3) (aCons (eCallT m__law_state (aCons (eVar 0) (aCons (eBin (oAdd true) (eC (.int 43)) (eVar 7)) (aNil)))) (aNil)))))) (gTp 3 (gsCons (gNm 1) (gsCons (gNm 2) (gsCons (gNm 3) (gsNil)))))) (
  sSeq (sExpr (eBM .lst fAppend (eVar 6) (aCons (eTup (aCons (eVar 2) (aCons (eVar 3) (aNil)))) (aNil)))) (
  sIf (tVal (eBin oNe (eVar 2) (eCallP m_web_of (aCons (eBin oIx (eVar 1) (eC (.int 0))) (aCons (eCallB (fList true) (aCons (eBin oIx (eVar 1) (eC (.int 1))) (aNil))) (aCons (eCallB (fList true) (aCons (eBin oIx (eVar 1) (eC (.int 2))) (aNil))) (aCons (eCallB (fList true) (aCons (eBin oIx (eVar 1) (eC (.int 3))) (aNil))) (aNil)))))))) (sRet (eC (.bl false))) (sNil)))
def g2_law : GM := gTp 2 (gsCons (gNm 12) (gsCons (gNm 13) (gsNil)))
def w2_law : SM := sSeq (sSet 14 (eCallP m__law_apart (aCons (eBin oIx (eVar 12) (eC (.int 0))) (aCons (eBin oIx (eVar 12) (eC (.int 1))) (aCons (eBin oIx (eVar 13) (eC (.int 0))) (aCons (eBin oIx (eVar 13) (eC (.int 1))) (aCons (eVar 5) (aNil)))))))) (
  sSeq (sSet 15 (eCallP m_differ (aCons (eBin oIx (eVar 12) (eC (.int 0))) (aCons (eBin oIx (eVar 12) (eC (.int 1))) (aCons (eBin oIx (eVar 13) (eC (.int 0))) (aCons (eBin oIx (eVar 13) (eC (.int 1))) (aCons (eVar 5) (aNil)))))))) (
  sSeq (sIf (tOrM (tVal (eIsN (eVar 14))) (tVal (eBin oNe (eVar 15) (eVar 14)))) (sRet (eC (.bl false))) (sNil)) (
  sSeq (sExpr (eBM .lst fAppend (eVar 8) (aCons (eVar 15) (aNil)))) (
  sSeq (sSet 16 (eTup (aCons (eCallP m_exchanged (aCons (eBin oIx (eVar 12) (eC (.int 0))) (aNil))) (aCons (eCallP m_exchanged_stand (aCons (eBin oIx (eVar 12) (eC (.int 1))) (aNil))) (aNil))))) (
  sIf (tVal (eBin oNe (eCallP m_differ (aCons (eCallP m_exchanged (aCons (eBin oIx (eVar 13) (eC (.int 0))) (aNil))) (aCons (eCallP m_exchanged_stand (aCons (eBin oIx (eVar 13) (eC (.int 1))) (aNil))) (aCons (eBin oIx (eVar 16) (eC (.int 0))) (aCons (eBin oIx (eVar 16) (eC (.int 1))) (aCons (eVar 5) (aNil))))))) (eVar 14))) (sRet (eC (.bl false))) (sNil))))))
def s10_law : SM := sRet (eBin oEq (eSortW true (eBin (oAdd true) (eBin oIx (eVar 8) (eC (.int 0))) (eBin oIx (eVar 8) (eC (.int 1))))) (eBin oIx (eVar 8) (eC (.int 2))))
def s9_law : SM := sSeq (sFor (iS (eTup (aCons (eTup (aCons (eVar 9) (aCons (eVar 10) (aNil)))) (aCons (eTup (aCons (eVar 10) (aCons (eVar 11) (aNil)))) (aCons (eTup (aCons (eVar 9) (aCons (eVar 11) (aNil)))) (aNil)))))) (g2_law) (w2_law)) (
  s10_law)
def s8_law : SM := sSeq (sSet 8 (eLst false (aNil))) (
  s9_law)
def s7_law : SM := sSeq (sPar3 9 10 11 (aCons (eBin oIx (eVar 6) (eC (.int 0))) (aCons (eBin oIx (eVar 6) (eBin oFdiv (eCallB fLen (aCons (eVar 6) (aNil))) (eC (.int 2)))) (aCons (eBin oIx (eVar 6) (eUn oNeg (eC (.int 1)))) (aNil))))) (
  s8_law)
def s6_law : SM := sSeq (sFor (iR1 (aCons (eBin (oAdd true) (eC (.int 1)) (eCallM m__law_digit (aCons (eVar 4) (aCons (eC (.int 5)) (aNil))))) (aNil))) (g1_law) (w1_law)) (
  s7_law)
def s5_law : SM := sSeq (sSet 6 (eLst false (aCons (eTup (aCons (eVar 2) (aCons (eVar 3) (aNil)))) (aNil)))) (
  s6_law)
def s4_law : SM := sSeq (sSet 5 (eCallM m__law_digit (aCons (eVar 4) (aCons (eC (.int 7)) (aNil))))) (
  s5_law)
def s3_law : SM := sSeq (sSet 4 (eCallT m__law_state (aCons (eVar 0) (aCons (eC (.int 42)) (aNil))))) (
  s4_law)
def s2_law : SM := sSeq (sSet 3 (eCallP m__law_stand (aCons (eVar 0) (aCons (eC (.int 41)) (aCons (eBin oIx (eVar 1) (eC (.int 3))) (aNil)))))) (
  s3_law)
def s1_law : SM := sSeq (sSet 2 (eCallP m_web_of (aCons (eBin oIx (eVar 1) (eC (.int 0))) (aCons (eCallB (fList true) (aCons (eBin oIx (eVar 1) (eC (.int 1))) (aNil))) (aCons (eCallB (fList true) (aCons (eBin oIx (eVar 1) (eC (.int 2))) (aNil))) (aCons (eCallB (fList true) (aCons (eBin oIx (eVar 1) (eC (.int 3))) (aNil))) (aNil))))))) (
  s2_law)
def b_law : SM := sSeq (sSet 1 (eCallP m__law_people (aCons (eVar 0) (aNil)))) (
  s1_law)
def m_law : List D → Res := fnP 1 17 b_law
end R
namespace R
open PySem PySem.Spec PyProof.Rows L2
@[simp] theorem q_is_whole_int (i : Int) : m_is_whole [.int i] = .ok (.bl true) := by rw [m_is_whole, fnP1_s]; simp [b_is_whole]
@[simp] theorem q_is_whole_non : m_is_whole [.non] = .ok (.bl false) := by rw [m_is_whole, fnP1_s]; simp [b_is_whole]
@[simp] theorem q_is_whole_bl (b : Bool) : m_is_whole [.bl b] = .ok (.bl false) := by rw [m_is_whole, fnP1_s]; simp [b_is_whole]
@[simp] theorem q_is_whole_str (b : Str) : m_is_whole [.str b] = .ok (.bl false) := by rw [m_is_whole, fnP1_s]; simp [b_is_whole]
@[simp] theorem q_is_whole_tup (b : List D) : m_is_whole [.tup b] = .ok (.bl false) := by rw [m_is_whole, fnP1_s]; simp [b_is_whole]
@[simp] theorem q_is_whole_lst (f : Tg) (b : List D) : m_is_whole [.lst f b] = .ok (.bl false) := by rw [m_is_whole, fnP1_s]; simp [b_is_whole]
@[simp] theorem q_is_among_int (i lo hi : Int) : m_is_among [.int i, .int lo, .int hi] = .ok (.bl (decide (lo ≤ i ∧ i ≤ hi))) := by
  rw [m_is_among, fnP3_s]
  simp -implicitDefEqProofs [b_is_among]
  by_cases h : lo ≤ i <;> simp [h]
theorem q_look {n b k : Nat} {h : PH} {dl : List D} {t : Tri} {r : List (Int × Int)} (e : h[b]? = some (.lst dl)) (hl : dl.length = n) (bt : triB n t) (e1 : atI dl t.1 = some (.loc k)) (e2 : h[k]? = some (dctH r)) (na : hasI r t.2.1 = false) : m_look_at_tie [cTri.d t, .loc b] h = .ok .non h := by
  obtain ⟨b1, b2, b3, b4, b5, b6, b7⟩ := bt
  have a1 : t.1 ≤ (n : Int) - 1 := by omega
  have a2 : t.2.1 ≤ (n : Int) - 1 := by omega
  rw [m_look_at_tie, fnM2_s, b_look_at_tie]
  simp -implicitDefEqProofs [cTri_d, fLen_loc e, hl, e, e1, b1, b3, b5, b6, b7, a1, a2, oDIn_at e2, na]
theorem w_ties {n : Nat} {T : List Tri} (k : TriOk n T) (h30 : n ≤ 30) {i : Nat} {t : Tri} (et : T[i]? = some t) {y1 y3 x4 x5 x6 : Option D} :
    ((g2_ties_of (cTri.d t) [some (.int n), y1, some (.loc n), y3, x4, x5, x6] (hD (rowsF n (T.take i)))).bind w2_ties_of) = .ok (.nx [some (.int n), y1, some (.loc n), some (cTri.d t), x4, x5, x6]) (hD (rowsF n (T.take (i + 1)))) := by
  have bt := k.bd t (List.mem_of_getElem? et)
  have u := take_u k.un et
  have kt := k.take i
  obtain ⟨b1, b2, b3, b4, b5, b6, b7⟩ := id bt
  obtain ⟨l, at'⟩ := rowsF_at kt.bd
  have f1 : hasI (rowC (T.take i) t.1.toNat) t.2.1 = false := (fresh (n := n) u).resolve_right (by omega)
  have f2 : hasI (rowC (T.take i) t.2.1.toNat) t.1 = false := (fresh2 (n := n) u).resolve_right (by omega)
  have r1 := rows_at kt (p := t.1.toNat) (by omega)
  have r2 := rows_at kt (p := t.2.1.toNat) (by omega)
  have d1 := hD_at r1
  have dl := hD_l l
  have a1 : atI (locs 0 n) t.1 = some (.loc t.1.toNat) := by rw [atI_nn _ b1, locs_at (by omega), Nat.zero_add]
  have a2 : atI (locs 0 n) t.2.1 = some (.loc t.2.1.toNat) := by rw [atI_nn _ b3, locs_at (by omega), Nat.zero_add]
  have q := q_look dl (by simp) bt a1 d1 f1
  have p1 := oDPut_new (w := t.2.2) d1 f1 (by have := rowC_len kt t.1.toNat; omega)
  rw [hD_set (by omega)] at p1
  have r2' : ((rowsF n (T.take i)).set t.1.toNat (rowC (T.take i) t.1.toNat ++ [(t.2.1, t.2.2)]))[t.2.1.toNat]? = some (rowC (T.take i) t.2.1.toNat) := by rw [List.getElem?_set_ne (by omega), r2]
  have d2 := hD_at r2'
  have dl2 := hD_l (R := (rowsF n (T.take i)).set t.1.toNat (rowC (T.take i) t.1.toNat ++ [(t.2.1, t.2.2)])) (n := n) (by simp [l])
  have p2 := oDPut_new (w := t.2.2) d2 f2 (by have := rowC_len kt t.2.1.toNat; omega)
  rw [hD_set (by simp; omega)] at p2
  have es : ((rowsF n (T.take i)).set t.1.toNat (rowC (T.take i) t.1.toNat ++ [(t.2.1, t.2.2)])).set t.2.1.toNat (rowC (T.take i) t.2.1.toNat ++ [(t.1, t.2.2)]) = rowsF n (T.take (i + 1)) := by
    rw [take_snoc et, rowsF_snoc]
    unfold stepT addT
    rw [r1, Option.getD_some, Int.toNat_of_nonneg b3, Int.toNat_of_nonneg b1, r2', Option.getD_some]
  rw [es] at p2
  simp -implicitDefEqProofs only [g2_ties_of, w2_ties_of, gNm_s, bind_ok, sSeq_s, sExpr_s, eCallM_s, aCons_s, aNil_s, eVar_s, List.set_cons_succ, List.set_cons_zero, List.getElem?_cons_succ, List.getElem?_cons_zero, ofVar_s, kCons_s, kCons2_s, q, kExpr_s, kSeq_nx]
  have h0 : ∀ hh : PH, oIx (cTri.d t) (.int 0) hh = .ok (.int t.1) hh := fun hh => by simp [cTri_d]
  have h1 : ∀ hh : PH, oIx (cTri.d t) (.int 1) hh = .ok (.int t.2.1) hh := fun hh => by simp [cTri_d]
  have h2 : ∀ hh : PH, oIx (cTri.d t) (.int 2) hh = .ok (.int t.2.2) hh := fun hh => by simp [cTri_d]
  simp -implicitDefEqProofs [h0, h1, h2, dl, a1, a2, p1, dl2, p2]
theorem e_ties {n : Nat} {T : List Tri} (k : TriOk n T) (h30 : n ≤ 30) {p : Nat} (hp : p < n) {ρ : Rho} {y0 y1 y2 y3 y4 y5 y6 : Option D} : lcEl g4_ties_of tTrue e4_ties_of [y0, y1, y2, y3, y4, y5, y6] (.loc (0 + p)) (hD (rowsF n T)) = .ok (some (cRow.d (sortP (rowC T p)))) (hD (rowsF n T)) := by
  have r1 := hD_at (rows_at k hp)
  have nd := rowC_nodup k p
  have ln := rowC_len k p
  have fs : fSortD true [.loc p] (hD (rowsF n T)) = .ok (.lst .own ((sortI ((rowC T p).map (·.1))).map .int)) (hD (rowsF n T)) := fSortD_at r1 (by omega)
  have hm : ∀ x ∈ sortI ((rowC T p).map (·.1)), lookI (rowC T p) x = some ((lookI (rowC T p) x).getD 0) := fun x hx => by
    have hx' : x ∈ (rowC T p).map (·.1) := (List.mergeSort_perm _ _).mem_iff.mp hx
    obtain ⟨y, hy, rfl⟩ := List.mem_map.mp hx'
    rw [look_self nd y hy]
    rfl
  have lc := lcGo_map (chk := always) (g := g3_ties_of) (t := tTrue) (e := e3_ties_of) (ρ := [y0, y1, y2, y3, y4, some (.loc p), none]) (h := hD (rowsF n T)) D.int dPair (fun x => (x, (lookI (rowC T p) x).getD 0)) rfl (sortI ((rowC T p).map (·.1))) (by rw [show (sortI ((rowC T p).map (·.1))).length = (rowC T p).length by unfold sortI; rw [(List.mergeSort_perm _ _).length_eq]; simp, line_eq]; omega) (fun x hx => by
    have g := oDGet_at r1 (hm x hx)
    simp -implicitDefEqProofs [g3_ties_of, e3_ties_of, g, line_eq, dPair])
  rw [sorted_row nd] at lc
  simp -implicitDefEqProofs [g4_ties_of, e4_ties_of, fs, lc, cRow_d]
theorem q_ties_of {n : Nat} {T : List Tri} {tg : Tg} (k : TriOk n T) (h1 : 1 ≤ n) (h30 : n ≤ 30) : m_ties_of [.int n, .lst tg (T.map cTri.d)] = .ok (cTies.d ((rowsF n T).map sortP)) := by
  have a1 : (1 : Int) ≤ n := by omega
  have a2 : (n : Int) ≤ 30 := by omega
  have l0 : (List.replicate n ([] : List (Int × Int))).length = n := by simp
  obtain ⟨acc, h', e1, rfl, rfl⟩ := lcGo_sat (chk := always) (g := g1_ties_of) (t := tTrue) (e := e1_ties_of) (ρ := [some (.int n), some (.lst tg (T.map cTri.d)), none, none, none, none, none]) (items := irange 0 n) (acc := []) (h := []) (fun i acc h => acc = locs 0 i ∧ h = List.replicate i (dctH [])) ⟨rfl, rfl⟩ (fun _ _ _ _ _ => rfl) (by simp [line_eq]; omega) (by
    rintro i d acc h hi ⟨rfl, rfl⟩
    obtain ⟨hin, rfl⟩ := irange_at hi
    simp -implicitDefEqProofs [g1_ties_of, e1_ties_of, locs_succ, List.replicate_succ', dctH])
  rw [irange_len] at e1
  have eh : List.replicate n (dctH []) ++ [.lst (locs 0 n)] = hD (rowsF n (T.take 0)) := by simp [hD, rowsF]
  obtain ⟨ρ', h', e2, rfl, y, rfl⟩ := forGo_sat (chk := always) (g := g2_ties_of) (body := w2_ties_of) (items := T.map cTri.d) (ρ := [some (.int n), some (.lst tg (T.map cTri.d)), some (.loc n), none, none, none, none]) (h := hD (rowsF n (T.take 0))) (fun i ρ h => h = hD (rowsF n (T.take i)) ∧ ∃ y, ρ = [some (.int n), some (.lst tg (T.map cTri.d)), some (.loc n), y, none, none, none]) ⟨rfl, none, rfl⟩ (fun _ _ _ _ _ => rfl) (by
    rintro i d ρ h hi ⟨rfl, y, rfl⟩
    rw [List.getElem?_map] at hi
    obtain ⟨t, et, rfl⟩ := Option.map_eq_some_iff.mp hi
    rw [w_ties k h30 et, sat_ok]
    exact ⟨rfl, _, rfl⟩)
  rw [List.length_map, List.take_length] at e2
  obtain ⟨l, at'⟩ := rowsF_at k.bd
  have dl := hD_l l
  have hc : isLst n (locs 0 n) (hD (rowsF n T)) = true := isLst_at dl
  have lc := lcGo_map (chk := isLst n (locs 0 n)) (g := g4_ties_of) (t := tTrue) (e := e4_ties_of) (ρ := [some (.int n), some (.lst tg (T.map cTri.d)), some (.loc n), y, none, none, none]) (h := hD (rowsF n T)) (fun i : Nat => D.loc (0 + i)) cRow.d (fun p => sortP (rowC T p)) hc (List.range n) (range_small (by omega)) (fun p hp => e_ties k h30 (List.mem_range.mp hp) (ρ := []))
  have el : (List.range n).map (fun p => sortP (rowC T p)) = (rowsF n T).map sortP := by
    refine List.ext_getElem? fun p => ?_
    rw [List.getElem?_map, List.getElem?_map]
    by_cases hp : p < n
    · rw [rows_at k hp, List.getElem?_range hp]
      rfl
    · rw [List.getElem?_eq_none (by simp; omega), List.getElem?_eq_none (by omega)]
      rfl
  rw [el] at lc
  have er : resF (hD (rowsF n T)) 16 (.tup (((rowsF n T).map sortP).map cRow.d)) = some (.tup (((rowsF n T).map sortP).map cRow.d)) := cTies.hrs _ 16 _ (by decide)
  have it := itS_loc dl
  change lcGo (isLst n (locs 0 n)) g4_ties_of tTrue e4_ties_of [some (.int n), some (.lst tg (T.map cTri.d)), some (.loc n), y, none, none, none] (locs 0 n) [] (hD (rowsF n T)) = _ at lc
  simp only [List.take_zero] at e2 eh
  rw [m_ties_of, fnP2_s, b_ties_of]
  simp -implicitDefEqProofs [a1, a2, kR1_n (n := n) (by omega), e1, eh, e2, it, lc, er, -List.map_map]
  all_goals rfl
@[simp] theorem q_is_stay_non : m_is_stay [.non] = .ok (.bl true) := by rw [m_is_stay, fnP1_s]; simp -implicitDefEqProofs [b_is_stay]
@[simp] theorem q_is_stay_int (i : Int) : m_is_stay [.int i] = .ok (.bl (decide (0 ≤ i ∧ i ≤ 1))) := by rw [m_is_stay, fnP1_s]; simp -implicitDefEqProofs [b_is_stay]
theorem q_told {α : Type} [DecidableEq α] (c : Cd α) (hc : c.n < 15) {n : Nat} {tg : Tg} {xs : List α} (hl : xs.length = n) {f : Str} {m : List D → Res} (em : c_told_of_is_one f = some m) (ok : ∀ x ∈ xs, m [c.d x] = .ok (.bl true)) : m_told_of [.lst tg (xs.map c.d), .int n, .gl f] = .ok (.tup (xs.map c.d)) := by
  have sn : ∀ (h : PH) (x : α), snapF h 16 (c.d x) = some (c.d x) := fun h x => c.hsn h 16 x (by omega)
  obtain ⟨ρ', h', e2, rfl, y, rfl⟩ := forGo_sat (chk := always) (g := g1_told_of) (body := w1_told_of) (items := xs.map c.d) (ρ := [some (.lst tg (xs.map c.d)), some (.int n), some (.gl f), none]) (h := []) (fun i ρ h => h = [] ∧ ∃ y, ρ = [some (.lst tg (xs.map c.d)), some (.int n), some (.gl f), y]) ⟨rfl, none, rfl⟩ (fun _ _ _ _ _ => rfl) (by
    rintro i d ρ h hi ⟨rfl, y, rfl⟩
    rw [List.getElem?_map] at hi
    obtain ⟨x, ex, rfl⟩ := Option.map_eq_some_iff.mp hi
    have q := ok x (List.mem_of_getElem? ex)
    have ec : ∀ (as : AM) (hh : PH), eCallL 2 c_told_of_is_one as [some (.lst tg (xs.map c.d)), some (.int n), some (.gl f), some (c.d x)] hh = (as [some (.lst tg (xs.map c.d)), some (.int n), some (.gl f), some (c.d x)] hh).bind (runP m) := fun as hh => eCallL_at (by rfl) em
    simp -implicitDefEqProofs [g1_told_of, w1_told_of, ec, q, sn, turnF])
  have er : resF [] 16 (.tup (xs.map c.d)) = some (.tup (xs.map c.d)) := (cTup c).hrs _ 16 _ (show c.n + 1 < 16 by omega)
  rw [m_told_of, fnP3_s, b_told_of]
  simp -implicitDefEqProofs [hl, e2, er, -List.map_map]
theorem q_wsum {r : List (Int × Int)} (hl : r.length ≤ 1000) : m_sum_of [cRow.d r] = .ok (.int (r.map (·.2)).sum) := by
  have lc := lcGo_map (chk := always) (g := g1_sum_of) (t := tTrue) (e := e1_sum_of) (ρ := [some (cRow.d r), none, none]) (h := []) dPair D.int (·.2) rfl r (by rw [line_eq]; omega) (fun x hx => by
    simp -implicitDefEqProofs [g1_sum_of, e1_sum_of, dPair])
  rw [m_sum_of, fnP1_s, b_sum_of]
  simp -implicitDefEqProofs [lc, -List.map_map]
/-- the bars, the stays that a web gets -/
def barsO (n : Nat) (T : List Tri) : Option (List Int) → List Int
  | some b => b
  | none => (List.range n).map fun p => ((sortP (rowC T p)).map (·.2)).sum
def staysO (n : Nat) : Option (List (Option Int)) → List (Option Int)
  | some s => s
  | none => List.replicate n none
def lstO {α : Type} (d : α → D) (tg : Tg) : Option (List α) → D
  | some b => .lst tg (b.map d)
  | none => .non
theorem q_web_of {n : Nat} {T : List Tri} {t1 t2 t3 : Tg} {B : Option (List Int)} {Y : Option (List (Option Int))} (k : TriOk n T) (h1 : 1 ≤ n) (h30 : n ≤ 30) (hb : ∀ b, B = some b → b.length = n) (hy : ∀ y, Y = some y → y.length = n ∧ ∀ o ∈ y, iStay o) :
    m_web_of [.int n, .lst t1 (T.map cTri.d), lstO .int t2 B, lstO stayD t3 Y] = .ok (cWeb.d (webT n T (barsO n T B) (staysO n Y))) := by
  have q1 := q_ties_of (tg := borT t1) k h1 h30
  have ht : (rowsF n T).map sortP = (List.range n).map (fun p => sortP (rowC T p)) := by
    obtain ⟨l, at'⟩ := rowsF_at k.bd
    refine List.ext_getElem? fun p => ?_
    rw [List.getElem?_map, List.getElem?_map]
    by_cases hp : p < n
    · rw [rows_at k hp, List.getElem?_range hp]
      rfl
    · rw [List.getElem?_eq_none (by omega), List.getElem?_eq_none (by simp; omega)]
      rfl
  have lr : ∀ p, (sortP (rowC T p)).length ≤ 30 := fun p => by rw [(sortP_perm _).length_eq]; have := rowC_len k p; omega
  have snr : ∀ (h : PH) (r : List (Int × Int)), snapF h 16 (cRow.d r) = some (cRow.d r) := fun h r => cRow.hsn h 16 r (by decide)
  have lc := fun (ρ : Rho) (hρ : ∃ y0 y1 y2 y3 y4 y5 y6, ρ = [y0, y1, y2, y3, y4, y5, y6, none]) => lcGo_map (chk := always) (g := g1_web_of) (t := tTrue) (e := e1_web_of) (ρ := ρ) (h := []) (fun p : Nat => cRow.d (sortP (rowC T p))) D.int (fun p => ((sortP (rowC T p)).map (·.2)).sum) rfl (List.range n) (range_small (by omega)) (fun p hp => by
    obtain ⟨y0, y1, y2, y3, y4, y5, y6, rfl⟩ := hρ
    have q := q_wsum (r := sortP (rowC T p)) (by have := lr p; omega)
    simp -implicitDefEqProofs [g1_web_of, e1_web_of, q, snr])
  have sz : n ≤ sizeLine := by rw [line_eq]; omega
  have l1 : ∀ h : PH, oMul true (.tup [.non]) (.int n) h = .ok (.tup ((List.replicate n (none : Option Int)).map stayD)) h := fun h => by
    rw [oMul_one h1 (by omega), List.map_replicate]
    rfl
  have iw : c_told_of_is_one "is_whole" = some m_is_whole := rfl
  have iy : c_told_of_is_one "is_stay" = some m_is_stay := rfl
  have snt : ∀ (h : PH), snapF h 16 (.tup ((List.range n).map fun p => cRow.d (sortP (rowC T p)))) = some (.tup ((List.range n).map fun p => cRow.d (sortP (rowC T p)))) := fun h => by
    have := cTies.hsn h 16 ((List.range n).map fun p => sortP (rowC T p)) (by decide)
    have e : cTies.d ((List.range n).map fun p => sortP (rowC T p)) = .tup ((List.range n).map fun p => cRow.d (sortP (rowC T p))) := by
      show D.tup (List.map _ _) = _
      rw [List.map_map]
      rfl
    rwa [e] at this
  have e0 : (cTies.d ((rowsF n T).map sortP)) = .tup ((List.range n).map fun p => cRow.d (sortP (rowC T p))) := by
    rw [ht]
    show D.tup (List.map _ _) = _
    rw [List.map_map]
    rfl
  have fin : ∀ bs ys, resF [] 16 (.tup [.tup ((List.range n).map fun p => cRow.d (sortP (rowC T p))), .tup (bs.map D.int), .tup (ys.map stayD)]) = some (cWeb.d (webT n T bs ys)) := fun bs ys => by
    have := res_web (h := []) (W := webT n T bs ys)
    rw [cWeb_d] at this ⊢
    have e1 : (webT n T bs ys).ties.map cRow.d = (List.range n).map fun p => cRow.d (sortP (rowC T p)) := by
      show ((rowsF n T).map sortP).map cRow.d = _
      rw [ht, List.map_map]
      rfl
    rw [e1] at this ⊢
    exact this
  rw [e0] at q1
  rw [m_web_of, fnP4_s, b_web_of]
  have g1 : ∀ (hh : PH) (d : List Int), snapF hh 16 (.lst t2 (d.map .int)) = some (.lst (borT t2) (d.map .int)) := fun hh d => snap_lstI
  cases B with
  | none =>
    cases Y with
    | none =>
      have f := fin (barsO n T none) (staysO n none)
      simp only [barsO, staysO] at f
      simp -implicitDefEqProofs [lstO, q1, lc _ ⟨_, _, _, _, _, _, _, rfl⟩, l1, line_eq, -List.map_map, -List.map_replicate, f, barsO, staysO]
    | some ys =>
      obtain ⟨y1, y2⟩ := hy ys rfl
      have f := fin (barsO n T none) ys
      simp only [barsO] at f
      have q3 := q_told cStay (by decide) (tg := borT t3) y1 iy (fun x hx => by
        rcases y2 x hx with e | e | e <;> subst e <;> simp [cStay, stayD])
      have q3 : m_told_of [.lst (borT t3) (ys.map stayD), .int n, .gl "is_stay"] = .ok (.tup (ys.map stayD)) := q3
      simp -implicitDefEqProofs [lstO, q1, lc _ ⟨_, _, _, _, _, _, _, rfl⟩, l1, line_eq, -List.map_map, -List.map_replicate, f, barsO, staysO, q3]
  | some bs =>
    have b1 := hb bs rfl
    have q2 := q_told cInt (by decide) (tg := borT t2) b1 iw (fun x hx => q_is_whole_int x)
    have q2 : m_told_of [.lst (borT t2) (bs.map .int), .int n, .gl "is_whole"] = .ok (.tup (bs.map .int)) := q2
    cases Y with
    | none =>
      have f := fin bs (staysO n none)
      simp only [staysO] at f
      simp -implicitDefEqProofs [lstO, q1, lc _ ⟨_, _, _, _, _, _, _, rfl⟩, l1, line_eq, -List.map_map, -List.map_replicate, f, barsO, staysO, q2]
    | some ys =>
      obtain ⟨y1, y2⟩ := hy ys rfl
      have f := fin bs ys
      have q3 := q_told cStay (by decide) (tg := borT t3) y1 iy (fun x hx => by
        rcases y2 x hx with e | e | e <;> subst e <;> simp [cStay, stayD])
      have q3 : m_told_of [.lst (borT t3) (ys.map stayD), .int n, .gl "is_stay"] = .ok (.tup (ys.map stayD)) := q3
      simp -implicitDefEqProofs [lstO, q1, lc _ ⟨_, _, _, _, _, _, _, rfl⟩, l1, line_eq, -List.map_map, -List.map_replicate, f, barsO, staysO, q2, q3]
end R
namespace R
open PySem PySem.Spec PyProof.Rows L2
def stH (c i : Int) (m : Bool) : HB := .lst [.int c, .int i, .bl m]
def isSt (o : HB) : Prop := ∃ c i m, 0 ≤ i ∧ o = stH c i m
theorem q_digitA {h : PH} {l : Nat} {o : HB} {b : Int} (e : h[l]? = some o) (ho : isSt o) (b0 : 0 < b) (b1 : b < 18446744073709551616) : ∃ v o', 0 ≤ v ∧ v < b ∧ isSt o' ∧ m__law_digit [.loc l, .int b] h = .ok (.int v) (h.set l o') := by
  obtain ⟨c, i, m, hi, rfl⟩ := ho
  have hl : l < h.length := (List.getElem?_eq_some_iff.mp e).1
  unfold stH at e
  have p1 : ∀ x : Int, putL (.loc l) (.int 1) (.int x) h = some (h.set l (.lst [.int c, .int x, .bl m])) := fun x => by rw [putL_at e (j := 1) (by rfl)]; rfl
  have e2 : ∀ x : HB, (h.set l x)[l]? = some x := fun x => by simp [hl]
  have lg : b.natAbs.log2 < 9000 := by
    by_cases z : b.natAbs = 0
    · omega
    · exact Nat.lt_of_lt_of_le ((Nat.log2_lt z).mpr (show b.natAbs < 2 ^ 64 by omega)) (by decide)
  rw [m__law_digit, fnM2_s, b__law_digit]
  cases m with
  | false =>
    have p2 : ∀ x : Int, putL (.loc l) (.int 0) (.int x) (h.set l (.lst [.int c, .int (i + 1), .bl false])) = some (h.set l (.lst [.int x, .int (i + 1), .bl false])) := fun x => by rw [putL_at (e2 _) (j := 0) (by rfl), List.set_set]; rfl
    refine ⟨c % b, stH (c / b) (i + 1) false, Int.emod_nonneg _ (by omega), Int.emod_lt_of_pos _ b0, ⟨_, _, _, by omega, rfl⟩, ?_⟩
    simp -implicitDefEqProofs [e, p1, e2, b0, lg, p2, stH]
  | true =>
    refine ⟨((((c + 7919 * (i + 1) + 1) * 48271 % 2147483647) * (((c + 7919 * (i + 1) + 1) * 48271 % 2147483647) % 65521 + (i + 1)) % 2147483629) * (((c + 7919 * (i + 1) + 1) * 48271 % 2147483647) * (((c + 7919 * (i + 1) + 1) * 48271 % 2147483647) % 65521 + (i + 1)) % 2147483629) + 69621 * (((c + 7919 * (i + 1) + 1) * 48271 % 2147483647) * (((c + 7919 * (i + 1) + 1) * 48271 % 2147483647) % 65521 + (i + 1)) % 2147483629)) % 2147483563 % b, stH c (i + 1) true, Int.emod_nonneg _ (by omega), Int.emod_lt_of_pos _ b0, ⟨_, _, _, by omega, rfl⟩, ?_⟩
    have c1 : ∀ z : Int, -18446744073709551616 < z % 2147483647 := fun z => by omega
    have c2 : ∀ z : Int, z % 2147483647 < 18446744073709551616 := fun z => by omega
    have d1 : ∀ z : Int, -18446744073709551616 < z % 2147483629 := fun z => by omega
    have d2 : ∀ z : Int, z % 2147483629 < 18446744073709551616 := fun z => by omega
    simp -implicitDefEqProofs [e, p1, e2, b0, stH, c1, c2, d1, d2]
theorem q_state (s : List Int) {k : Nat} : ∃ o, isSt o ∧ ∃ ds, o = .lst ds ∧ m__law_state [.lst .cst (s.map .int), .int k] = .ok (.lst .own ds) := by
  rw [m__law_state, fnP2_s, b__law_state]
  obtain ⟨c, ec⟩ : ∃ c : Int, (if k < s.length then (some (.int (vA s k)) : Option D) else some (.int 0)) = some (.int c) := by
    split
    · exact ⟨_, rfl⟩
    · exact ⟨_, rfl⟩
  have hv : k < s.length → s[k]? = some (vA s k) := fun h => vA_at h
  by_cases hk : k < s.length
  · have hk' : (k : Int) < s.length := by omega
    have h0 : ¬ s.length = 0 := by omega
    have v0 := vA_at (s := s) (p := 0) (by omega)
    by_cases hm : vA s 0 % 2 = 1
    · refine ⟨stH (vA s k % 2147483647 + 1000003 * k) 0 true, ⟨_, _, _, by omega, rfl⟩, _, rfl, ?_⟩
      simp -implicitDefEqProofs [hk', hv hk, h0, v0, hm, line_eq]
      rfl
    · refine ⟨stH (vA s k) 0 false, ⟨_, _, _, by omega, rfl⟩, _, rfl, ?_⟩
      simp -implicitDefEqProofs [hk', hv hk, h0, v0, hm, line_eq]
      rfl
  · have hk' : ¬ (k : Int) < s.length := by omega
    by_cases h0 : s.length = 0
    · refine ⟨stH (0 % 2147483647 + 1000003 * k) 0 true, ⟨_, _, _, by omega, rfl⟩, _, rfl, ?_⟩
      simp -implicitDefEqProofs [hk', h0, line_eq, show ¬ (k : Int) < 0 by omega]
      rfl
    · have v0 := vA_at (s := s) (p := 0) (by omega)
      by_cases hm : vA s 0 % 2 = 1
      · refine ⟨stH (0 % 2147483647 + 1000003 * k) 0 true, ⟨_, _, _, by omega, rfl⟩, _, rfl, ?_⟩
        simp -implicitDefEqProofs [hk', h0, v0, hm, line_eq]
        rfl
      · refine ⟨stH 0 0 false, ⟨_, _, _, by omega, rfl⟩, _, rfl, ?_⟩
        simp -implicitDefEqProofs [hk', h0, v0, hm, line_eq]
        rfl
theorem q_stateT (s : List Int) {z : Int} (hz : 0 ≤ z) : ∃ o, isSt o ∧ ∀ h : PH, runT m__law_state [.lst .cst (s.map .int), .int z] h = .ok (.loc h.length) (h ++ [o]) := by
  obtain ⟨o, io, ds, rfl, e⟩ := q_state s (k := z.toNat)
  rw [Int.toNat_of_nonneg hz] at e
  refine ⟨_, io, fun h => ?_⟩
  obtain ⟨c, i, m, _, h2⟩ := io
  cases h2
  exact runT_at (es := [.lst .cst (s.map .int), .int z]) (by simp) e rfl
theorem q_barA {kd nu t : Int} (k0 : 0 ≤ kd) (n0 : 0 ≤ nu) (n1 : nu < 200) (t0 : 0 ≤ t) (t1 : t ≤ 1000000) : ∃ b, iBar b ∧ m__law_bar [.int kd, .int nu, .int t] = .ok (.int b) := by
  rw [m__law_bar, fnP3_s, b__law_bar]
  by_cases c0 : kd = 0
  · exact ⟨t, ⟨by omega, by omega⟩, by simp -implicitDefEqProofs [c0]⟩
  by_cases c1 : kd = 1
  · exact ⟨nu - 60, ⟨by omega, by omega⟩, by simp -implicitDefEqProofs [c1]⟩
  by_cases c2 : kd = 2
  · exact ⟨t + nu % 5 - 2, ⟨by omega, by omega⟩, by simp -implicitDefEqProofs [c2]⟩
  by_cases c3 : kd = 3
  · refine ⟨2 * (nu % (t + 1)), ?_, by simp -implicitDefEqProofs [c3, show 0 < t + 1 by omega]⟩
    have a1 := Int.emod_nonneg nu (b := t + 1) (by omega)
    have a2 := Int.emod_lt_of_pos nu (b := t + 1) (by omega)
    exact ⟨by omega, by omega⟩
  have hp : (10 : Int) ^ 59 = 100000000000000000000000000000000000000000000000000000000000 := by decide +kernel
  have hv : nu % 2 = 0 ∨ nu % 2 = 1 := by omega
  rcases hv with h | h
  · refine ⟨100000000000000000000000000000000000000000000000000000000000 + nu, ⟨by omega, by omega⟩, ?_⟩
    simp -implicitDefEqProofs [c0, c1, c2, c3, hp, h, oNeg, line_eq]
  · refine ⟨-(100000000000000000000000000000000000000000000000000000000000 + nu), ⟨by omega, by omega⟩, ?_⟩
    simp -implicitDefEqProofs [c0, c1, c2, c3, hp, h, oNeg, line_eq]
end R
namespace R
open PySem PySem.Spec PyProof.Rows L2
/-- ahead of the tie of k and j -/
def befT (k j : Nat) (t : Tri) : Prop := (t.1 < k ∧ t.2.1 < k) ∨ (t.1 = k ∧ t.2.1 < j) ∨ (t.2.1 = k ∧ t.1 < j)
structure PplT (n k j : Nat) (T : List Tri) : Prop where
  ok : TriOk n T
  bef : ∀ t ∈ T, befT k j t
  len : T.length ≤ 30 * k + j
def totT (T : List Tri) (p : Nat) : Int := ((rowC T p).map (·.2)).sum
def totL (n : Nat) (T : List Tri) : List Int := (List.range n).map (totT T)
theorem sum_perm {l l' : List Int} (h : l.Perm l') : l.sum = l'.sum := by
  induction h with
  | nil => rfl
  | cons x _ ih => simp [ih]
  | swap x y l => simp; omega
  | trans _ _ h1 h2 => exact h1.trans h2
theorem totT_perm {T T' : List Tri} (h : T.Perm T') (p : Nat) : totT T p = totT T' p := sum_perm ((h.flatMap_right _).map _)
theorem totT_cons {T : List Tri} {t : Tri} (p : Nat) : totT (t :: T) p = ((ctr t p).map (·.2)).sum + totT T p := by
  unfold totT
  simp [rowC]
theorem ins_perm {α : Type} (T : List α) (i : Nat) (t : α) : (T.take i ++ [t] ++ T.drop i).Perm (t :: T) := by
  rw [List.append_assoc]
  refine (List.perm_middle (a := t) (l₁ := T.take i) (l₂ := T.drop i)).trans ?_
  rw [List.take_append_drop]
theorem PplT.ins {n k j : Nat} {T : List Tri} (g : PplT n k j T) (hk : k < n) (hj : j < k) {w : Int} (w1 : 1 ≤ w) (w2 : w ≤ 400) {t : Tri} (et : t = ((k : Int), (j : Int), w) ∨ t = ((j : Int), (k : Int), w)) (i : Nat) : PplT n k (j + 1) (T.take i ++ [t] ++ T.drop i) := by
  have pm := ins_perm T i t
  have bt : triB n t := by
    rcases et with rfl | rfl
    · exact ⟨by simp only; omega, by simp only; omega, by simp only; omega, by simp only; omega, by simp only; omega, w1, w2⟩
    · exact ⟨by simp only; omega, by simp only; omega, by simp only; omega, by simp only; omega, by simp only; omega, w1, w2⟩
  have b2 : befT k (j + 1) t := by
    rcases et with rfl | rfl
    · exact .inr (.inl ⟨rfl, by simp only; omega⟩)
    · exact .inr (.inr ⟨rfl, by simp only; omega⟩)
  refine ⟨⟨fun x hx => ?_, ?_⟩, fun x hx => ?_, ?_⟩
  · rcases List.mem_cons.mp (pm.mem_iff.mp hx) with rfl | hx
    · exact bt
    · exact g.ok.bd x hx
  · refine (pm.pairwise_iff (fun {a b} h => ?_)).mpr (List.pairwise_cons.mpr ⟨fun x hx => ?_, g.ok.un⟩)
    · unfold triU at h ⊢
      omega
    · have b := g.bef x hx
      unfold befT at b
      rcases et with rfl | rfl <;> unfold triU <;> simp only <;> omega
  · rcases List.mem_cons.mp (pm.mem_iff.mp hx) with rfl | hx
    · exact b2
    · have b := g.bef x hx
      unfold befT at b ⊢
      omega
  · rw [pm.length_eq, List.length_cons]
    have := g.len
    omega
theorem PplT.next {n k j : Nat} {T : List Tri} (g : PplT n k j T) : PplT n k (j + 1) T := ⟨g.ok, fun x hx => by have b := g.bef x hx; unfold befT at b ⊢; omega, by have := g.len; omega⟩
theorem PplT.row {n k : Nat} {T : List Tri} (g : PplT n k k T) (h : k ≤ 30) : PplT n (k + 1) 0 T := ⟨g.ok, fun x hx => by have b := g.bef x hx; unfold befT at b ⊢; omega, by have := g.len; omega⟩
theorem totL_put {n k j : Nat} {T : List Tri} {t : Tri} {w : Int} (hk : k < n) (hj : j < k) (et : t = ((k : Int), (j : Int), w) ∨ t = ((j : Int), (k : Int), w)) (i : Nat) : ((totL n T).set k (totT T k + w)).set j (totT T j + w) = totL n (T.take i ++ [t] ++ T.drop i) := by
  refine List.ext_getElem? fun p => ?_
  by_cases hp : p < n
  · have e1 : (totL n (T.take i ++ [t] ++ T.drop i))[p]? = some (((ctr t p).map (·.2)).sum + totT T p) := by
      unfold totL
      rw [List.getElem?_map, List.getElem?_range hp, Option.map_some, totT_perm (ins_perm T i t), totT_cons]
    have e0 : (totL n T)[p]? = some (totT T p) := by
      unfold totL
      rw [List.getElem?_map, List.getElem?_range hp, Option.map_some]
    have ll : (totL n T).length = n := by simp [totL]
    rw [e1, List.getElem?_set]
    by_cases c1 : j = p
    · subst c1
      have hc : ctr t j = [((k : Int), w)] := by
        rcases et with rfl | rfl <;> simp [ctr] <;> omega
      rw [if_pos rfl, if_pos (by simp [ll]; omega), hc]
      simp
      omega
    · rw [if_neg c1, List.getElem?_set]
      by_cases c2 : k = p
      · subst c2
        have hc : ctr t k = [((j : Int), w)] := by
          rcases et with rfl | rfl <;> simp [ctr] <;> omega
        rw [if_pos rfl, if_pos (by omega), hc]
        simp
        omega
      · have hc : ctr t p = [] := by
          rcases et with rfl | rfl <;> simp [ctr, show ¬ (k : Int) = p by omega, show ¬ (j : Int) = p by omega]
        rw [if_neg c2, e0, hc]
        simp
  · have l1 : (totL n (T.take i ++ [t] ++ T.drop i)).length = n := by simp [totL]
    have l2 : (((totL n T).set k (totT T k + w)).set j (totT T j + w)).length = n := by simp [totL]
    rw [List.getElem?_eq_none (by omega), List.getElem?_eq_none (by omega)]
theorem totT_bd {n : Nat} {T : List Tri} (k : TriOk n T) (h30 : n ≤ 30) (p : Nat) : 0 ≤ totT T p ∧ totT T p ≤ 12000 := by
  have h1 := rowC_len k p
  have gen : ∀ r : List (Int × Int), (∀ x ∈ r, 1 ≤ x.2 ∧ x.2 ≤ 400) → 0 ≤ (r.map (·.2)).sum ∧ (r.map (·.2)).sum ≤ 400 * r.length := by
    intro r
    induction r with
    | nil => intro _; simp
    | cons x r ih =>
      intro hb
      have a := ih fun y hy => hb y (List.mem_cons_of_mem _ hy)
      have b := hb x List.mem_cons_self
      simp only [List.map_cons, List.sum_cons, List.length_cons]
      omega
  have g := gen (rowC T p) fun x hx => by have := rowC_bd k.bd x hx; exact ⟨this.2.2.2.1, this.2.2.2.2⟩
  unfold totT
  omega
/-- the heap of the people under way -/
def hP (o : HB) (T : List Tri) (bs : List (Int × Int)) (ys : List (Option Int)) (ts : List Int) (S : PH) : PH := o :: .lst (T.map cTri.d) :: .lst (bs.map dPair) :: .lst (ys.map stayD) :: .lst (ts.map .int) :: S
theorem hP_st {o : HB} {T : List Tri} {bs : List (Int × Int)} {ys : List (Option Int)} {ts : List Int} {S : PH} {k : Nat} {x : HB} (e : S[k]? = some x) : (hP o T bs ys ts S)[5 + k]? = some x := by
  rw [show 5 + k = k + 5 by omega]
  exact e
theorem hP_set {o : HB} {T : List Tri} {bs : List (Int × Int)} {ys : List (Option Int)} {ts : List Int} {S : PH} {k : Nat} {x : HB} : (hP o T bs ys ts S).set (5 + k) x = hP o T bs ys ts (S.set k x) := by
  rw [show 5 + k = k + 5 by omega]
  rfl
theorem w1_people {n k j : Nat} {ns : List Int} {o st : HB} {T : List Tri} {bs : List (Int × Int)} {ys : List (Option Int)} {S : PH} {th : Int} {y10 y11 x1 : Option D} (g : PplT n k j T) (h30 : n ≤ 30) (hk : k < n) (hj : j < k) (hS : S.length = k) (hst : isSt st) (t0 : 0 < th) (t1 : th < 10) :
    ∃ T' st' z10 z11, PplT n k (j + 1) T' ∧ isSt st' ∧ ((g1__law_people (.int j) [some (.lst .cst (ns.map .int)), x1, some (.int n), some (.int th), some (.loc 1), some (.loc 2), some (.loc 3), some (.loc 4), some (.int k), some (.loc (5 + k)), y10, y11] (hP o T bs ys (totL n T) (S ++ [st]))).bind w1__law_people) = .ok (.nx [some (.lst .cst (ns.map .int)), x1, some (.int n), some (.int th), some (.loc 1), some (.loc 2), some (.loc 3), some (.loc 4), some (.int k), some (.loc (5 + k)), z10, z11]) (hP o T' bs ys (totL n T') (S ++ [st'])) := by
  have ix : ∀ x : HB, (S ++ [x])[k]? = some x := fun x => by rw [List.getElem?_append_right (by omega), hS]; simp
  have ixs : ∀ x y : HB, (S ++ [x]).set k y = S ++ [y] := fun x y => by rw [List.set_append_right _ _ (by omega), hS]; simp
  obtain ⟨v, s1, v0, v1, i1, e1⟩ := q_digitA (hP_st (o := o) (T := T) (bs := bs) (ys := ys) (ts := totL n T) (ix st)) hst t0 (by omega)
  rw [hP_set, ixs] at e1
  by_cases hv : v = 0
  · obtain ⟨v2, s2, v20, v21, i2, e2⟩ := q_digitA (hP_st (o := o) (T := T) (bs := bs) (ys := ys) (ts := totL n T) (ix s1)) i1 (b := 2) (by omega) (by omega)
    rw [hP_set, ixs] at e2
    have a2 : ∃ m : Int, (m = 3 ∨ m = 99) ∧ atI [D.int 3, .int 99] v2 = some (.int m) := by
      have : v2 = 0 ∨ v2 = 1 := by omega
      rcases this with e | e <;> subst e
      · exact ⟨3, .inl rfl, rfl⟩
      · exact ⟨99, .inr rfl, rfl⟩
    obtain ⟨m, hm, am⟩ := a2
    obtain ⟨v3, s3, v30, v31, i3, e3⟩ := q_digitA (hP_st (o := o) (T := T) (bs := bs) (ys := ys) (ts := totL n T) (ix s2)) i2 (b := m) (by omega) (by omega)
    rw [hP_set, ixs] at e3
    have len := g.len
    obtain ⟨v4, s4, v40, v41, i4, e4⟩ := q_digitA (hP_st (o := o) (T := T) (bs := bs) (ys := ys) (ts := totL n T) (ix s3)) i3 (b := (T.length : Int) + 1) (by omega) (by omega)
    rw [hP_set, ixs] at e4
    have a4 : ∃ t : Tri, (t = ((k : Int), (j : Int), 1 + v3) ∨ t = ((j : Int), (k : Int), 1 + v3)) ∧ atI [D.tup [.int k, .int j, .int (1 + v3)], D.tup [.int j, .int k, .int (1 + v3)]] ((1 + v3) % 2) = some (cTri.d t) := by
      have : (1 + v3) % 2 = 0 ∨ (1 + v3) % 2 = 1 := by omega
      rcases this with e | e <;> rw [e]
      · exact ⟨_, .inl rfl, rfl⟩
      · exact ⟨_, .inr rfl, rfl⟩
    obtain ⟨t, ht, at4⟩ := a4
    have g2 := g.ins hk hj (w := 1 + v3) (by omega) (by omega) ht v4.toNat
    have tp := totL_put hk hj ht (T := T) v4.toNat
    have ln : (hP o T bs ys (totL n T) (S ++ [s3]))[1]? = some (.lst (T.map cTri.d)) := rfl
    have fl : fLen [.loc 1] (hP o T bs ys (totL n T) (S ++ [s3])) = .ok (.int T.length) (hP o T bs ys (totL n T) (S ++ [s3])) := by rw [fLen_loc ln]; simp
    have fi : fInsert (.loc 1) [.int v4, cTri.d t] (hP o T bs ys (totL n T) (S ++ [s4])) = .ok .non (hP o (T.take v4.toNat ++ [t] ++ T.drop v4.toNat) bs ys (totL n T) (S ++ [s4])) := by
      have ln4 : (hP o T bs ys (totL n T) (S ++ [s4]))[1]? = some (.lst (T.map cTri.d)) := rfl
      unfold fInsert
      simp only
      rw [onL_at ln4, if_pos (by rw [line_eq, List.length_map]; omega), ofOn_s]
      congr 1
      show (hP o T bs ys (totL n T) (S ++ [s4])).set 1 (.lst _) = _
      rw [show List.take v4.toNat (T.map cTri.d) ++ [cTri.d t] ++ List.drop v4.toNat (T.map cTri.d) = (T.take v4.toNat ++ [t] ++ T.drop v4.toNat).map cTri.d by simp]
      rfl
    have ty : tyM .lst (hP o T bs ys (totL n T) (S ++ [s3])) (.loc 1) = true := tyM_at ln
    have o1 : ∀ (T' : List Tri) (ts : List Int) (p : Nat) (x : Int), ts[p]? = some x → oIx (.loc 4) (.int p) (hP o T' bs ys ts (S ++ [s4])) = .ok (.int x) (hP o T' bs ys ts (S ++ [s4])) := fun T' ts p x e => by
      have l4 : (hP o T' bs ys ts (S ++ [s4]))[4]? = some (.lst (ts.map .int)) := rfl
      simp -implicitDefEqProofs [l4, e]
    have o2 : ∀ (T' : List Tri) (ts : List Int) (p : Nat) (x : Int), p < ts.length → putL (.loc 4) (.int p) (.int x) (hP o T' bs ys ts (S ++ [s4])) = some (hP o T' bs ys (ts.set p x) (S ++ [s4])) := fun T' ts p x e => by
      have l4 : (hP o T' bs ys ts (S ++ [s4]))[4]? = some (.lst (ts.map .int)) := rfl
      rw [putL_at l4 (j := p) (by unfold ixN; rw [if_pos (by omega), if_pos (by simp; omega)]; simp)]
      rw [show (ts.map D.int).set p (.int x) = (ts.set p x).map .int by rw [List.map_set]]
      rfl
    have ll : (totL n T).length = n := by simp [totL]
    have t1 : (totL n T)[k]? = some (totT T k) := by unfold totL; rw [List.getElem?_map, List.getElem?_range hk]; rfl
    have t2 : ((totL n T).set k (totT T k + (1 + v3)))[j]? = some (totT T j) := by
      rw [List.getElem?_set_ne (by omega)]
      unfold totL
      rw [List.getElem?_map, List.getElem?_range (by omega)]
      rfl
    have p1 := fun T' => o2 T' (totL n T) k (totT T k + (1 + v3)) (by omega)
    have p2 := fun T' => o2 T' ((totL n T).set k (totT T k + (1 + v3))) j (totT T j + (1 + v3)) (by simp; omega)
    refine ⟨_, _, some (.int j), some (.int (1 + v3)), g2, i4, ?_⟩
    simp -implicitDefEqProofs [g1__law_people, w1__law_people, e1, hv, e2, am, e3, ty, fl, e4, at4, fi, line_eq, o1 _ _ _ _ t1, o1 _ _ _ _ t2, p1, p2, tp, -List.append_assoc]
  · refine ⟨_, _, some (.int j), y11, g.next, i1, ?_⟩
    simp -implicitDefEqProofs [g1__law_people, w1__law_people, e1, hv]
theorem hP_len {o : HB} {T : List Tri} {bs : List (Int × Int)} {ys : List (Option Int)} {ts : List Int} {S : PH} : (hP o T bs ys ts S).length = 5 + S.length := by
  simp [hP]
  omega
theorem hP_snoc {o : HB} {T : List Tri} {bs : List (Int × Int)} {ys : List (Option Int)} {ts : List Int} {S : PH} {x : HB} : hP o T bs ys ts S ++ [x] = hP o T bs ys ts (S ++ [x]) := rfl
theorem w2_people {n k : Nat} {ns : List Int} {o : HB} {T : List Tri} {bs : List (Int × Int)} {ys : List (Option Int)} {S : PH} {th : Int} {y8 y9 y10 y11 x1 : Option D} (g : PplT n k 0 T) (h30 : n ≤ 30) (hk : k < n) (hS : S.length = k) (lb : bs.length = k) (ly : ys.length = k) (t0 : 0 < th) (t1 : th < 10) :
    ∃ T' st' kd nu y z8 z9 z10 z11, PplT n (k + 1) 0 T' ∧ isSt st' ∧ (0 ≤ kd ∧ 0 ≤ nu ∧ nu < 200) ∧ iStay y ∧ ((g2__law_people (.int k) [some (.lst .cst (ns.map .int)), x1, some (.int n), some (.int th), some (.loc 1), some (.loc 2), some (.loc 3), some (.loc 4), y8, y9, y10, y11] (hP o T bs ys (totL n T) S)).bind w2__law_people) = .ok (.nx [some (.lst .cst (ns.map .int)), x1, some (.int n), some (.int th), some (.loc 1), some (.loc 2), some (.loc 3), some (.loc 4), z8, z9, z10, z11]) (hP o T' (bs ++ [(kd, nu)]) (ys ++ [y]) (totL n T') (S ++ [st'])) := by
  have ix : ∀ x : HB, (S ++ [x])[k]? = some x := fun x => by rw [List.getElem?_append_right (by omega), hS]; simp
  have ixs : ∀ x y : HB, (S ++ [x]).set k y = S ++ [y] := fun x y => by rw [List.set_append_right _ _ (by omega), hS]; simp
  obtain ⟨s0, i0, e0⟩ := q_stateT ns (z := 1 + (k : Int)) (by omega)
  have e0 := e0 (hP o T bs ys (totL n T) S)
  rw [hP_len, hP_snoc, hS] at e0
  obtain ⟨v1, s1, v10, v11, i1, e1⟩ := q_digitA (hP_st (o := o) (T := T) (bs := bs) (ys := ys) (ts := totL n T) (ix s0)) i0 (b := 5) (by omega) (by omega)
  rw [hP_set, ixs] at e1
  obtain ⟨y, hy, ay⟩ : ∃ y : Option Int, iStay y ∧ atI [D.non, .non, .non, .int 0, .int 1] v1 = some (stayD y) := by
    have : v1 = 0 ∨ v1 = 1 ∨ v1 = 2 ∨ v1 = 3 ∨ v1 = 4 := by omega
    rcases this with e | e | e | e | e <;> subst e
    · exact ⟨none, .inl rfl, rfl⟩
    · exact ⟨none, .inl rfl, rfl⟩
    · exact ⟨none, .inl rfl, rfl⟩
    · exact ⟨some 0, .inr (.inl rfl), rfl⟩
    · exact ⟨some 1, .inr (.inr rfl), rfl⟩
  have l3 : (hP o T bs ys (totL n T) (S ++ [s0]))[3]? = some (.lst (ys.map stayD)) := rfl
  have l3' : (hP o T bs ys (totL n T) (S ++ [s1]))[3]? = some (.lst (ys.map stayD)) := rfl
  have a3 : fAppend (.loc 3) [stayD y] (hP o T bs ys (totL n T) (S ++ [s1])) = .ok .non (hP o T bs (ys ++ [y]) (totL n T) (S ++ [s1])) := by
    rw [app_at l3' (by rw [line_eq]; simp; omega), show ys.map stayD ++ [stayD y] = (ys ++ [y]).map stayD by simp]
    rfl
  obtain ⟨kd, s2, k0, k1, i2, e2⟩ := q_digitA (hP_st (o := o) (T := T) (bs := bs) (ys := ys ++ [y]) (ts := totL n T) (ix s1)) i1 (b := 5) (by omega) (by omega)
  rw [hP_set, ixs] at e2
  obtain ⟨nu, s3, n0, n1, i3, e3⟩ := q_digitA (hP_st (o := o) (T := T) (bs := bs) (ys := ys ++ [y]) (ts := totL n T) (ix s2)) i2 (b := 200) (by omega) (by omega)
  rw [hP_set, ixs] at e3
  have l2 : (hP o T bs (ys ++ [y]) (totL n T) (S ++ [s1]))[2]? = some (.lst (bs.map dPair)) := rfl
  have l2' : (hP o T bs (ys ++ [y]) (totL n T) (S ++ [s3]))[2]? = some (.lst (bs.map dPair)) := rfl
  have a2 : fAppend (.loc 2) [.tup [.int kd, .int nu]] (hP o T bs (ys ++ [y]) (totL n T) (S ++ [s3])) = .ok .non (hP o T (bs ++ [(kd, nu)]) (ys ++ [y]) (totL n T) (S ++ [s3])) := by
    rw [app_at l2' (by rw [line_eq]; simp; omega), show bs.map dPair ++ [D.tup [.int kd, .int nu]] = (bs ++ [(kd, nu)]).map dPair by simp [dPair]]
    rfl
  obtain ⟨ρ', h', ef, T', st', z10, z11, g', i', rfl, rfl⟩ := forGo_sat (chk := always) (g := g1__law_people) (body := w1__law_people) (items := irange 0 k) (ρ := [some (.lst .cst (ns.map .int)), x1, some (.int n), some (.int th), some (.loc 1), some (.loc 2), some (.loc 3), some (.loc 4), some (.int k), some (.loc (5 + k)), y10, y11]) (h := hP o T (bs ++ [(kd, nu)]) (ys ++ [y]) (totL n T) (S ++ [s3]))
    (fun j ρ h => ∃ T' st' z10 z11, PplT n k j T' ∧ isSt st' ∧ h = hP o T' (bs ++ [(kd, nu)]) (ys ++ [y]) (totL n T') (S ++ [st']) ∧ ρ = [some (.lst .cst (ns.map .int)), x1, some (.int n), some (.int th), some (.loc 1), some (.loc 2), some (.loc 3), some (.loc 4), some (.int k), some (.loc (5 + k)), z10, z11])
    ⟨T, s3, y10, y11, g, i3, rfl, rfl⟩ (fun _ _ _ _ _ => rfl) (by
    rintro j d ρ h hi ⟨T', st', z10, z11, g', i', rfl, rfl⟩
    obtain ⟨hj, rfl⟩ := irange_at hi
    obtain ⟨T2, st2, w10, w11, g2, i2, e⟩ := w1_people (ns := ns) (o := o) (x1 := x1) (y10 := z10) (y11 := z11) (bs := bs ++ [(kd, nu)]) (ys := ys ++ [y]) g' h30 hk hj hS i' t0 t1
    rw [e, sat_ok]
    exact ⟨T2, st2, w10, w11, g2, i2, rfl, rfl⟩)
  rw [irange_len] at g'
  refine ⟨T', st', kd, nu, y, some (.int k), some (.loc (5 + k)), z10, z11, g'.row (by omega), i', ⟨k0, n0, n1⟩, hy, ?_⟩
  simp -implicitDefEqProofs [g2__law_people, w2__law_people, e0, tyM_at l3, e1, ay, a3, tyM_at l2, e2, e3, line_eq, a2, kR1_n (n := k) (by omega), ef, -List.append_assoc, -List.map_append]
structure PplOk (n : Nat) (T : List Tri) (bars : List Int) (stays : List (Option Int)) : Prop where
  pos : 1 ≤ n
  n30 : n ≤ 30
  tri : TriOk n T
  tl : T.length ≤ 1000
  bl : bars.length = n
  bb : ∀ b ∈ bars, iBar b
  yl : stays.length = n
  yy : ∀ y ∈ stays, iStay y
def pplD (n : Nat) (T : List Tri) (bars : List Int) (stays : List (Option Int)) : D := .tup [.int n, .lst .own (T.map cTri.d), .lst .own (bars.map .int), .lst .own (stays.map stayD), .lst .own ((totL n T).map .int)]
theorem q_people (ns : List Int) : ∃ n T bars stays, n ≤ 16 ∧ PplOk n T bars stays ∧ m__law_people [.lst .cst (ns.map .int)] = .ok (pplD n T bars stays) := by
  obtain ⟨o, io, eo⟩ := q_stateT ns (z := 0) (by omega)
  have eo := eo []
  simp only [List.length_nil, List.nil_append] at eo
  obtain ⟨v1, o1, a1, b1, i1, e1⟩ := q_digitA (h := [o]) (l := 0) rfl io (b := 2) (by omega) (by omega)
  obtain ⟨v2, o2, a2, b2, i2, e2⟩ := q_digitA (h := [o1]) (l := 0) rfl i1 (b := 3) (by omega) (by omega)
  obtain ⟨m, hm, am⟩ : ∃ m : Int, (m = 4 ∨ m = 8 ∨ m = 16) ∧ atI [D.int 4, .int 8, .int 16] v2 = some (.int m) := by
    have : v2 = 0 ∨ v2 = 1 ∨ v2 = 2 := by omega
    rcases this with e | e | e <;> subst e
    · exact ⟨4, .inl rfl, rfl⟩
    · exact ⟨8, .inr (.inl rfl), rfl⟩
    · exact ⟨16, .inr (.inr rfl), rfl⟩
  obtain ⟨v3, o3, a3, b3, i3, e3⟩ := q_digitA (h := [o2]) (l := 0) rfl i2 (b := m) (by omega) (by omega)
  obtain ⟨n, hn⟩ : ∃ n : Nat, (n : Int) = 1 + v3 := ⟨(1 + v3).toNat, by omega⟩
  obtain ⟨v4, o4, a4, b4, i4, e4⟩ := q_digitA (h := [o3]) (l := 0) rfl i3 (b := 3) (by omega) (by omega)
  obtain ⟨th, ht, at4⟩ : ∃ th : Int, (th = 1 ∨ th = 2 ∨ th = 5) ∧ atI [D.int 1, .int 2, .int 5] v4 = some (.int th) := by
    have : v4 = 0 ∨ v4 = 1 ∨ v4 = 2 := by omega
    rcases this with e | e | e <;> subst e
    · exact ⟨1, .inl rfl, rfl⟩
    · exact ⟨2, .inr (.inl rfl), rfl⟩
    · exact ⟨5, .inr (.inr rfl), rfl⟩
  simp only [List.set_cons_zero] at e1 e2 e3 e4
  have h30 : n ≤ 30 := by omega
  have p1 : 1 ≤ n := by omega
  have om : ∀ h : PH, oMul false (.lst .own [.int 0]) (.int n) h = .ok (.loc h.length) (h ++ [.lst ((totL n []).map .int)]) := fun h => by
    have e0 : totL n [] = List.replicate n 0 := List.eq_replicate_iff.mpr ⟨by simp [totL], fun b hb => by obtain ⟨p, _, rfl⟩ := List.mem_map.mp hb; rfl⟩
    rw [oMul_lst1 (by omega), e0, List.map_replicate]
    rfl
  obtain ⟨ρ', h', ef, T, bs, ys, S, z8, z9, z10, z11, g, lS, lb, hb, ly, hy, rfl, rfl⟩ := forGo_sat (chk := always) (g := g2__law_people) (body := w2__law_people) (items := irange 0 n) (ρ := [some (.lst .cst (ns.map .int)), some (.loc 0), some (.int n), some (.int th), some (.loc 1), some (.loc 2), some (.loc 3), some (.loc 4), none, none, none, none]) (h := hP o4 [] [] [] (totL n []) [])
    (fun k ρ h => ∃ T bs ys S z8 z9 z10 z11, PplT n k 0 T ∧ S.length = k ∧ bs.length = k ∧ (∀ b ∈ bs, 0 ≤ b.1 ∧ 0 ≤ b.2 ∧ b.2 < 200) ∧ ys.length = k ∧ (∀ y ∈ ys, iStay y) ∧ h = hP o4 T bs ys (totL n T) S ∧ ρ = [some (.lst .cst (ns.map .int)), some (.loc 0), some (.int n), some (.int th), some (.loc 1), some (.loc 2), some (.loc 3), some (.loc 4), z8, z9, z10, z11])
    ⟨[], [], [], [], none, none, none, none, ⟨⟨by simp, by simp⟩, by simp, by simp⟩, rfl, rfl, by simp, rfl, by simp, rfl, rfl⟩ (fun _ _ _ _ _ => rfl) (by
    rintro k d ρ h hi ⟨T, bs, ys, S, z8, z9, z10, z11, g, lS, lb, hb, ly, hy, rfl, rfl⟩
    obtain ⟨hk, rfl⟩ := irange_at hi
    obtain ⟨T', st', kd, nu, y, w8, w9, w10, w11, g', i', hkn, hiy, e⟩ := w2_people (ns := ns) (o := o4) (x1 := some (.loc 0)) (y8 := z8) (y9 := z9) (y10 := z10) (y11 := z11) g h30 hk lS lb ly (th := th) (by omega) (by omega)
    rw [e, sat_ok]
    refine ⟨T', bs ++ [(kd, nu)], ys ++ [y], S ++ [st'], w8, w9, w10, w11, g', by simp [lS], by simp [lb], fun b hb' => ?_, by simp [ly], fun y' hy' => ?_, rfl, rfl⟩
    · rcases List.mem_append.mp hb' with h | h
      · exact hb b h
      · obtain rfl := List.mem_singleton.mp h
        exact hkn
    · rcases List.mem_append.mp hy' with h | h
      · exact hy y' h
      · obtain rfl := List.mem_singleton.mp h
        exact hiy)
  rw [irange_len] at g lS lb ly
  obtain ⟨acc, h', el, rfl, xs, lx, hx, rfl⟩ := lcGo_sat (chk := always) (g := g3__law_people) (t := tTrue) (e := e3__law_people) (ρ := [some (.lst .cst (ns.map .int)), some (.loc 0), some (.int n), some (.int th), some (.loc 1), some (.loc 2), some (.loc 3), some (.loc 4), none, z9, z10, z11]) (items := irange 0 n) (acc := []) (h := hP o4 T bs ys (totL n T) S) (fun i acc h => h = hP o4 T bs ys (totL n T) S ∧ ∃ xs : List Int, xs.length = i ∧ (∀ x ∈ xs, iBar x) ∧ acc = xs.map .int) ⟨rfl, [], rfl, by simp, rfl⟩ (fun _ _ _ _ _ => rfl) (by simp [line_eq]; omega) (by
    rintro i d acc h hi ⟨rfl, xs, lx, hx, rfl⟩
    obtain ⟨hin, rfl⟩ := irange_at hi
    have eb : bs[i]? = some bs[i] := List.getElem?_eq_getElem (by omega)
    have hbi := hb _ (List.getElem_mem (show i < bs.length by omega))
    have et : (totL n T)[i]? = some (totT T i) := by unfold totL; rw [List.getElem?_map, List.getElem?_range hin]; rfl
    have tb := totT_bd g.ok h30 i
    obtain ⟨b, ib, q⟩ := q_barA (kd := bs[i].1) (nu := bs[i].2) (t := totT T i) hbi.1 hbi.2.1 hbi.2.2 tb.1 (by omega)
    have l2 : (hP o4 T bs ys (totL n T) S)[2]? = some (.lst (bs.map dPair)) := rfl
    have l4 : (hP o4 T bs ys (totL n T) S)[4]? = some (.lst ((totL n T).map .int)) := rfl
    simp -implicitDefEqProofs [g3__law_people, e3__law_people, l2, l4, eb, et, dPair, q]
    exact ⟨xs ++ [b], by simp [lx], fun x hx' => by
      rcases List.mem_append.mp hx' with h | h
      · exact hx x h
      · obtain rfl := List.mem_singleton.mp h
        exact ib, by simp⟩)
  rw [irange_len] at lx
  refine ⟨n, T, xs, ys, by omega, ⟨p1, h30, g.ok, by have := g.len; omega, lx, hx, ly, hy⟩, ?_⟩
  have hS : ∀ x : HB, (hP o4 T bs ys (totL n T) (S ++ [x]))[5 + n]? = some x := fun x => hP_st (by rw [List.getElem?_append_right (by omega), lS]; simp)
  have r1 : resF (hP o4 T bs ys (totL n T) (S ++ [.lst (xs.map .int)])) 15 (.loc 1) = some (.lst .own (T.map cTri.d)) := resk_loc cTri (by decide) rfl
  have r2 : resF (hP o4 T bs ys (totL n T) (S ++ [.lst (xs.map .int)])) 15 (.loc (5 + n)) = some (.lst .own (xs.map .int)) := resk_loc cInt (by decide) (hS _)
  have r3 : resF (hP o4 T bs ys (totL n T) (S ++ [.lst (xs.map .int)])) 15 (.loc 3) = some (.lst .own (ys.map stayD)) := resk_loc cStay (by decide) rfl
  have r4 : resF (hP o4 T bs ys (totL n T) (S ++ [.lst (xs.map .int)])) 15 (.loc 4) = some (.lst .own ((totL n T).map .int)) := resk_loc cInt (by decide) rfl
  have er : resF (hP o4 T bs ys (totL n T) (S ++ [.lst (xs.map .int)])) 16 (.tup [.int n, .loc 1, .loc (5 + n), .loc 3, .loc 4]) = some (pplD n T xs ys) := by
    rw [resF]
    simp only [optAll, r1, r2, r3, r4]
    rfl
  have eh : ([o4, .lst [], .lst [], .lst [], .lst ((totL n []).map .int)] : PH) = hP o4 [] [] [] (totL n []) [] := rfl
  rw [m__law_people, fnP1_s, b__law_people]
  simp -implicitDefEqProofs [eo, e1, e2, am, e3, ← hn, e4, at4, line_eq, om, eh, kR1_n (n := n) (by omega), ef, el, hP_len, hP_snoc, lS, er]
theorem PplOk.shape {n : Nat} {T : List Tri} {bars : List Int} {stays : List (Option Int)} (k : PplOk n T bars stays) : Shape n (webT n T bars stays) := webT_shape k.tri k.n30 k.bl k.yl
theorem PplOk.stayOk {n : Nat} {T : List Tri} {bars : List Int} {stays : List (Option Int)} (k : PplOk n T bars stays) : StayOk n (webT n T bars stays) := fun p hp => by
  have e := stayA_at (W := webT n T bars stays) (p := p) (by show p < stays.length; rw [k.yl]; exact hp)
  exact k.yy _ (List.mem_of_getElem? e)
end R
namespace R
open PySem PySem.Spec PyProof.Rows L2
theorem q_standA {n : Nat} {T : List Tri} {bars : List Int} {stays : List (Option Int)} (k : PplOk n T bars stays) (ns : List Int) {z : Int} (hz : 0 ≤ z) (t : Tg) : ∃ s, Stand n s ∧ fitsI (webT n T bars stays) s = true ∧ m__law_stand [.lst .cst (ns.map .int), .int z, .lst t (stays.map stayD)] = .ok (cStand.d s) := by
  have h30 := k.n30
  obtain ⟨o, io, eo⟩ := q_stateT ns hz
  have eo := eo []
  simp only [List.length_nil, List.nil_append] at eo
  obtain ⟨ρ', h', ef, o', xs, y5, y6, i', lx, hx, rfl, rfl⟩ := forGo_sat (chk := always) (g := g1__law_stand) (body := w1__law_stand) (items := stays.map stayD) (ρ := [some (.lst .cst (ns.map .int)), some (.int z), some (.lst t (stays.map stayD)), some (.loc 0), some (.loc 1), none, none]) (h := [o, .lst []])
    (fun i ρ h => ∃ o' xs y5 y6, isSt o' ∧ xs.length = i ∧ (∀ p, p < i → heldP (vA xs p) (stayA (webT n T bars stays) p)) ∧ h = [o', .lst (xs.map .int)] ∧ ρ = [some (.lst .cst (ns.map .int)), some (.int z), some (.lst t (stays.map stayD)), some (.loc 0), some (.loc 1), y5, y6])
    ⟨o, [], none, none, io, rfl, fun p hp => by omega, rfl, rfl⟩ (fun _ _ _ _ _ => rfl) (by
    rintro i d ρ h hi ⟨o', xs, y5, y6, i', lx, hx, rfl, rfl⟩
    rw [List.getElem?_map] at hi
    obtain ⟨y, ey, rfl⟩ := Option.map_eq_some_iff.mp hi
    have hy := k.yy y (List.mem_of_getElem? ey)
    have es : stayA (webT n T bars stays) i = y := by
      unfold stayA webT
      simp only [ey, Option.getD_some]
    obtain ⟨v, o2, v0, v1, i2, ev⟩ := q_digitA (h := [o', .lst (xs.map .int)]) (l := 0) rfl i' (b := 2) (by omega) (by omega)
    simp only [List.set_cons_zero] at ev
    have il := (List.getElem?_eq_some_iff.mp ey).1
    have ly := k.yl
    have ea : ∀ x : Int, fAppend (.loc 1) [.int x] [o2, .lst (xs.map .int)] = .ok .non [o2, .lst ((xs ++ [x]).map .int)] := fun x => by
      rw [app_at (n := 1) rfl (by rw [line_eq]; simp; omega)]
      simp
    have ty : tyM .lst ([o2, .lst (xs.map .int)] : PH) (.loc 1) = true := tyM_at (n := 1) rfl
    have fin : ∀ x, heldP x y → ∀ p, p < i + 1 → heldP (vA (xs ++ [x]) p) (stayA (webT n T bars stays) p) := fun x hxx p hp => by
      by_cases c : p < i
      · have := hx p c
        unfold vA at this ⊢
        rw [List.getElem?_append_left (by omega)]
        exact this
      · have : p = i := by omega
        subst this
        unfold vA
        rw [List.getElem?_append_right (by omega), lx, Nat.sub_self, es]
        exact hxx
    rcases hy with rfl | rfl | rfl
    · have e : ((g1__law_stand (stayD none) [some (.lst .cst (ns.map .int)), some (.int z), some (.lst t (stays.map stayD)), some (.loc 0), some (.loc 1), y5, y6] [o', .lst (xs.map .int)]).bind w1__law_stand) = .ok (.nx [some (.lst .cst (ns.map .int)), some (.int z), some (.lst t (stays.map stayD)), some (.loc 0), some (.loc 1), some .non, some (.int v)]) [o2, .lst ((xs ++ [v]).map .int)] := by
        simp -implicitDefEqProofs [g1__law_stand, w1__law_stand, ev, stayD, ty, ea, -List.map_append]
      rw [e, sat_ok]
      exact ⟨o2, xs ++ [v], _, _, i2, by simp [lx], fin v ⟨by omega, .inl rfl⟩, rfl, rfl⟩
    · have e : ((g1__law_stand (stayD (some 0)) [some (.lst .cst (ns.map .int)), some (.int z), some (.lst t (stays.map stayD)), some (.loc 0), some (.loc 1), y5, y6] [o', .lst (xs.map .int)]).bind w1__law_stand) = .ok (.nx [some (.lst .cst (ns.map .int)), some (.int z), some (.lst t (stays.map stayD)), some (.loc 0), some (.loc 1), some (.int 0), some (.int 0)]) [o2, .lst ((xs ++ [0]).map .int)] := by
        simp -implicitDefEqProofs [g1__law_stand, w1__law_stand, ev, stayD, ty, ea, -List.map_append]
      rw [e, sat_ok]
      exact ⟨o2, xs ++ [0], _, _, i2, by simp [lx], fin 0 ⟨.inl rfl, .inr rfl⟩, rfl, rfl⟩
    · have e : ((g1__law_stand (stayD (some 1)) [some (.lst .cst (ns.map .int)), some (.int z), some (.lst t (stays.map stayD)), some (.loc 0), some (.loc 1), y5, y6] [o', .lst (xs.map .int)]).bind w1__law_stand) = .ok (.nx [some (.lst .cst (ns.map .int)), some (.int z), some (.lst t (stays.map stayD)), some (.loc 0), some (.loc 1), some (.int 1), some (.int 1)]) [o2, .lst ((xs ++ [1]).map .int)] := by
        simp -implicitDefEqProofs [g1__law_stand, w1__law_stand, ev, stayD, ty, ea, -List.map_append]
      rw [e, sat_ok]
      exact ⟨o2, xs ++ [1], _, _, i2, by simp [lx], fin 1 ⟨.inr rfl, .inr rfl⟩, rfl, rfl⟩)
  rw [List.length_map, k.yl] at lx hx
  obtain ⟨f1, f2⟩ := fits_of k.shape lx hx
  refine ⟨xs, f1, f2, ?_⟩
  rw [m__law_stand, fnP3_s, b__law_stand]
  simp -implicitDefEqProofs [eo, line_eq, ef, ← cStand_d]
end R
namespace R
open PySem PySem.Spec PyProof.Rows L2
theorem w_fits (W : Web) (s : List Int) (x : Int × Option Int) (ρ : Rho) (h : PH) : (∃ u v, ρ = [some (cWeb.d W), some (cStand.d s), u, v]) → ((g1_fits (.tup [.int x.1, stayD x.2]) ρ h).bind w1_fits).sat fun f h' => h' = h ∧ if heldOk x then ∃ ρ', f = .nx ρ' ∧ ∃ u v, ρ' = [some (cWeb.d W), some (cStand.d s), u, v] else f = .rt (.bl false) := by
  obtain ⟨i, o⟩ := x
  rintro ⟨u, v, rfl⟩
  simp -implicitDefEqProofs [g1_fits, w1_fits, heldOk, kTOr_d, kTAnd_d, kIf_d]
  by_cases h1 : i < 0 ∨ 1 < i
  · have h2 : ¬(0 ≤ i ∧ i ≤ 1) := by omega
    simp -implicitDefEqProofs [h1, h2]
  · have h2 : 0 ≤ i ∧ i ≤ 1 := by omega
    cases o with
    | none => simp [h1, h2]
    | some j =>
      by_cases h3 : j = i
      · simp [h1, h2, h3]
      · simp [h1, h2, h3]
theorem q_fits (W : Web) (s : List Int) : m_fits [cWeb.d W, cStand.d s] = .ok (.bl (fitsI W s)) := by
  rw [m_fits, fnP2_s, b_fits]
  simp -implicitDefEqProofs [kIf_d]
  by_cases hl : s.length = W.ties.length
  · have hl' : (s.length : Int) = W.ties.length := by omega
    simp -implicitDefEqProofs [hl', zipD_map]
    obtain ⟨f, h', e, e2, q⟩ := (forGo_all (chk := always) (g := g1_fits) (body := w1_fits) (r := .bl false) (fun p : Int × Option Int => D.tup [.int p.1, stayD p.2]) heldOk _ rfl (fun x ρ => w_fits W s x ρ []) (s.zip W.stays) _ ⟨none, none, rfl⟩).ex
    rw [e]
    subst e2
    simp only [fitsI, hl, decide_true, Bool.true_and, bind_ok]
    cases hz : (s.zip W.stays).all heldOk
    · rw [hz] at q
      simp at q
      subst q
      simp
    · rw [hz] at q
      simp at q
      obtain ⟨ρ', rfl, u, v, rfl⟩ := q
      simp
  · have hl' : ¬ (s.length : Int) = W.ties.length := by omega
    simp -implicitDefEqProofs [hl', hl, fitsI]
theorem q_ask_stand (W : Web) (s : List Int) : m_ask_stand [cWeb.d W, cStand.d s] = if fitsI W s then .ok .non else .exc ⟨"NoStand", none⟩ := by
  rw [m_ask_stand, fnP2_s, b_ask_stand]
  simp -implicitDefEqProofs [kIf_d, q_fits]
  cases fitsI W s <;> simp
theorem q_ask_ok {W : Web} {s : List Int} (e : fitsI W s = true) : m_ask_stand [cWeb.d W, cStand.d s] = .ok .non := by rw [q_ask_stand, e]; rfl
theorem q_pulled (W : Web) (s : List Int) (p : Nat) (r : List (Int × Int)) (hr : W.ties[p]? = some r) (hs : rowIn s.length r) (hz : r.length ≤ sizeLine) : m_pulled [cWeb.d W, cStand.d s, .int p] = .ok (.int (2 * pulledI s r)) := by
  rw [m_pulled, fnP3_s, b_pulled]
  simp -implicitDefEqProofs [hr]
  have e := lcGo_pure (chk := always) (g := g1_pulled) (t := t1_pulled) (e := e1_pulled) (ρ := [some (cWeb.d W), some (cStand.d s), some (.int p), none, none]) (h := []) dPair D.int (fun q : Int × Int => if atI s q.1 = some 1 then some q.2 else none) rfl r [] (by simpa using hz) fun q hq => by
    obtain ⟨x, hx⟩ := rowIn_at rfl hs hq
    obtain ⟨q1, q2⟩ := q
    simp only at hx
    simp -implicitDefEqProofs [dPair, g1_pulled, t1_pulled, e1_pulled, hx, kEl2_d]
    by_cases h1 : x = 1 <;> simp [h1]
  simp only [List.nil_append] at e
  rw [e]
  simp -implicitDefEqProofs [pulledI, optAll_int]
theorem q_turned {n : Nat} {W : Web} (h : Shape n W) {s : List Int} (hs : Stand n s) {p : Nat} (hp : p < n) : m_turned [cWeb.d W, cStand.d s, .int p] = .ok (.int (turnedI W s p)) := by
  obtain ⟨r1, r2, r3⟩ := h.row hp
  have e1 := q_pulled W s p (rowA W p) r1 (by rw [hs.len]; exact r2) r3
  rw [pulledI_eq hs r2] at e1
  have e2 := h.bar hp
  have e3 := stayA_at (W := W) (p := p) (by rw [h.stays]; exact hp)
  have e4 := vA_at (s := s) (p := p) (by rw [hs.len]; exact hp)
  rw [m_turned, fnP3_s, b_turned]
  unfold turnedI
  cases es : stayA W p with
  | some x =>
    rw [es] at e3
    simp -implicitDefEqProofs [e3, stayD]
  | none =>
    rw [es] at e3
    simp -implicitDefEqProofs [e3, e1, e2, e4, kIf_d]
    by_cases h1 : 2 * rowS (vA s) (rowA W p) = barA W p
    · simp -implicitDefEqProofs [h1]
    · by_cases h2 : barA W p < 2 * rowS (vA s) (rowA W p)
      · simp -implicitDefEqProofs [h1, h2, e2]
      · simp -implicitDefEqProofs [h1, h2, e2]
theorem q_turn {n : Nat} {W : Web} (h : Shape n W) {s : List Int} (hs : Stand n s ∧ fitsI W s = true) : m_turn [cWeb.d W, cStand.d s] = .ok (cStand.d (turnI n W s)) := by
  have hn := h.small
  have e1 := q_ask_ok hs.2
  have e3 := lcGo_map (chk := always) (g := g1_turn) (t := tTrue) (e := e1_turn) (ρ := [some (cWeb.d W), some (cStand.d s), none]) (h := []) (fun i : Nat => D.int (0 + (i : Nat))) D.int (turnedI W s) rfl (List.range n) (range_small hn) (by
    intro i hi
    have q := q_turned h hs.1 (List.mem_range.mp hi)
    simp -implicitDefEqProofs [g1_turn, e1_turn, tTrue, q])
  rw [← irange_eq, ← turnI] at e3
  rw [m_turn, fnP2_s, b_turn]
  simp -implicitDefEqProofs [e1, hs.1.len, kR1_n (n := n) (by omega), e3, ← cStand_d]
theorem q_history {n : Nat} {W : Web} (h : Shape n W) (st : StayOk n W) {s : List Int} (hs : Stand n s ∧ fitsI W s = true) {k : Nat} (hk : k ≤ 400) : m_history [cWeb.d W, cStand.d s, .int k] = .ok (.lst .own ((goI n W s k).map cStand.d)) := by
  have e1 := q_ask_ok hs.2
  have hk' : ¬ (400 : Int) < k := by omega
  obtain ⟨ρ', h', e, rfl, y, rfl⟩ := forGo_sat (chk := always) (g := g1_history) (body := w1_history) (items := irange 0 k) (ρ := [some (cWeb.d W), some (cStand.d s), some (.int k), some (.loc 0), none]) (h := [.lst [cStand.d s]]) (fun i ρ h => h = [.lst ((goI n W s i).map cStand.d)] ∧ ∃ y, ρ = [some (cWeb.d W), some (cStand.d s), some (.int k), some (.loc 0), y]) ⟨rfl, none, rfl⟩ (fun _ _ _ _ _ => rfl) (by
    rintro i d ρ h0 hi ⟨rfl, y, rfl⟩
    obtain ⟨hin, rfl⟩ := irange_at hi
    have q := q_turn h (itI_fits h st hs i)
    have a1 : atI (goI n W s i) (-1) = some (itI n W s i) := by
      have := atI_neg (xs := goI n W s i) (j := 1) (by omega) (by rw [goI_len]; omega)
      rw [goI_len] at this
      rw [show (-1 : Int) = -((1 : Nat) : Int) from rfl, this]
      exact goI_at (by omega)
    have ea : fAppend (.loc 0) [cStand.d (turnI n W (itI n W s i))] [.lst ((goI n W s i).map cStand.d)] = .ok .non [.lst ((goI n W s (i + 1)).map cStand.d)] := by
      rw [app_at (n := 0) rfl (by rw [line_eq]; simp [goI_len]; omega), goI_succ, List.map_append]
      rfl
    have ty := tyM_at (n := 0) (h := [.lst ((goI n W s i).map cStand.d)]) rfl
    simp -implicitDefEqProofs [g1_history, w1_history, oNeg, a1, q, ea, ty, turnF])
  rw [irange_len] at e
  rw [m_history, fnP3_s, b_history]
  have er := res_loc_of cStand (by decide) (h := [.lst ((goI n W s k).map cStand.d)]) (n := 0) rfl
  simp -implicitDefEqProofs [e1, hk', line_eq, kR1_n (n := k) (by omega), e, er, kIf_d]
end R
namespace R
open PySem PySem.Spec PyProof.Rows L2
theorem q_weights {n : Nat} {W : Web} (h : Shape n W) {p : Nat} (hp : p < n) : m_weights_of [cWeb.d W, .int p] = .ok (.int ((rowA W p).map (·.2)).sum) := by
  obtain ⟨r1, r2, r3⟩ := h.row hp
  have hr := (h.rows _ (List.mem_of_getElem? r1)).2
  have snr : ∀ (h : PH) (r : List (Int × Int)), snapF h 16 (cRow.d r) = some (cRow.d r) := fun h r => cRow.hsn h 16 r (by decide)
  have q := q_wsum hr
  rw [m_weights_of, fnP2_s, b_weights_of]
  simp -implicitDefEqProofs [r1, snr, q]
def exS (s : List Int) : List Int := s.map fun x => 1 - x
def exY (o : Option Int) : Option Int := o.map fun x => 1 - x
theorem exS_len {s : List Int} : (exS s).length = s.length := by simp [exS]
theorem exS_at {s : List Int} {p : Nat} (h : p < s.length) : vA (exS s) p = 1 - vA s p := by
  unfold vA exS
  rw [List.getElem?_map, List.getElem?_eq_getElem h]
  rfl
theorem exS_exS (s : List Int) : exS (exS s) = s := by
  unfold exS
  rw [List.map_map]
  have : ((fun x => 1 - x) ∘ fun x : Int => 1 - x) = id := by funext x; simp only [Function.comp_apply, id_eq]; omega
  rw [this, List.map_id]
theorem exY_exY (o : Option Int) : exY (exY o) = o := by
  cases o with
  | none => rfl
  | some x => simp only [exY, Option.map_some, Option.some.injEq]; omega
def wA (W : Web) (p : Nat) : Int := ((rowA W p).map (·.2)).sum
def exW (n : Nat) (W : Web) : Web := ⟨W.ties, (List.range n).map fun p => 2 * wA W p - barA W p, W.stays.map exY⟩
theorem exW_bar {n : Nat} {W : Web} {p : Nat} (hp : p < n) : barA (exW n W) p = 2 * wA W p - barA W p := by
  unfold barA vA exW
  simp [hp]
  rfl
theorem exW_stay {n : Nat} {W : Web} {p : Nat} (hp : p < W.stays.length) : stayA (exW n W) p = exY (stayA W p) := by
  unfold stayA exW
  simp only [List.getElem?_map, List.getElem?_eq_getElem hp]
  rfl
theorem exW_row {n : Nat} {W : Web} {p : Nat} : rowA (exW n W) p = rowA W p := rfl
theorem exW_shape {n : Nat} {W : Web} (h : Shape n W) : Shape n (exW n W) := ⟨h.ties, by simp [exW], by simp [exW, h.stays], h.small, h.rows⟩
theorem exW_stayOk {n : Nat} {W : Web} (h : Shape n W) (st : StayOk n W) : StayOk n (exW n W) := fun p hp => by
  rw [exW_stay (by rw [h.stays]; exact hp)]
  rcases st p hp with e | e | e <;> rw [e]
  · exact .inl rfl
  · exact .inr (.inr rfl)
  · exact .inr (.inl rfl)
theorem exW_exW {n : Nat} {W : Web} (h : Shape n W) : exW n (exW n W) = W := by
  have e1 : (exW n (exW n W)).bars = W.bars := by
    refine List.ext_getElem? fun p => ?_
    by_cases hp : p < n
    · have e : (exW n (exW n W)).bars[p]? = some (2 * wA (exW n W) p - barA (exW n W) p) := by
        show ((List.range n).map fun p => 2 * wA (exW n W) p - barA (exW n W) p)[p]? = _
        rw [List.getElem?_map, List.getElem?_range hp]
        rfl
      rw [e, exW_bar hp, h.bar hp]
      congr 1
      have : wA (exW n W) p = wA W p := rfl
      omega
    · rw [List.getElem?_eq_none (by simp [exW]; omega), List.getElem?_eq_none (by rw [h.bars]; omega)]
  have e2 : (exW n (exW n W)).stays = W.stays := by
    show (W.stays.map exY).map exY = W.stays
    rw [List.map_map]
    have : exY ∘ exY = id := by funext o; exact exY_exY o
    rw [this, List.map_id]
  have e3 : (exW n (exW n W)).ties = W.ties := rfl
  obtain ⟨a, b, c⟩ := W
  simp only at e1 e2 e3
  generalize exW n (exW n ⟨a, b, c⟩) = V at e1 e2 e3
  obtain ⟨a', b', c'⟩ := V
  simp only at e1 e2 e3
  rw [e1, e2, e3]
theorem exS_stand {n : Nat} {s : List Int} (h : Stand n s) : Stand n (exS s) := ⟨by rw [exS_len, h.len], fun x hx => by
  obtain ⟨y, hy, rfl⟩ := List.mem_map.mp hx
  have := h.bit y hy
  omega⟩
theorem rowS_ex {n : Nat} {s : List Int} (hs : s.length = n) {r : List (Int × Int)} (hr : rowIn n r) : rowS (vA (exS s)) r = (r.map (·.2)).sum - rowS (vA s) r := by
  induction r with
  | nil => rfl
  | cons x r ih =>
    have h1 := hr x List.mem_cons_self
    have ih := ih fun y hy => hr y (List.mem_cons_of_mem _ hy)
    unfold rowS at ih ⊢
    simp only [List.map_cons, List.sum_cons]
    rw [ih, exS_at (by omega), Int.mul_sub]
    omega
theorem turned_ex {n : Nat} {W : Web} (h : Shape n W) {s : List Int} (hs : Stand n s) {p : Nat} (hp : p < n) : turnedI (exW n W) (exS s) p = 1 - turnedI W s p := by
  have r2 := (h.row hp).2.1
  have e1 := rowS_ex hs.len r2
  have e2 := exS_at (s := s) (p := p) (by rw [hs.len]; exact hp)
  have eb := exW_bar (W := W) hp
  have ey := exW_stay (n := n) (W := W) (p := p) (by rw [h.stays]; exact hp)
  unfold turnedI
  rw [ey, exW_row, e1, e2, eb]
  unfold wA
  cases stayA W p with
  | some x => rfl
  | none =>
    simp only [exY, Option.map_none]
    by_cases c1 : 2 * rowS (vA s) (rowA W p) = barA W p
    · rw [if_pos (by omega), if_pos c1]
    · rw [if_neg (by omega), if_neg c1]
      by_cases c2 : barA W p < 2 * rowS (vA s) (rowA W p)
      · rw [if_neg (by omega), if_pos c2]
        rfl
      · rw [if_pos (by omega), if_neg c2]
        rfl
theorem turn_ex {n : Nat} {W : Web} (h : Shape n W) {s : List Int} (hs : Stand n s) : turnI n (exW n W) (exS s) = exS (turnI n W s) := by
  unfold turnI exS
  rw [List.map_map]
  exact List.map_congr_left fun p hp => turned_ex h hs (List.mem_range.mp hp)
theorem ex_fits {n : Nat} {W : Web} (h : Shape n W) {s : List Int} (hs : Stand n s ∧ fitsI W s = true) : Stand n (exS s) ∧ fitsI (exW n W) (exS s) = true := by
  refine fits_of (exW_shape h) (by rw [exS_len, hs.1.len]) fun p hp => ?_
  have b := (exS_stand hs.1).at hp
  refine ⟨b, ?_⟩
  rw [exW_stay (by rw [h.stays]; exact hp)]
  have kq := kept_of h hs p hp
  cases es : stayA W p with
  | none => exact .inl rfl
  | some x =>
    rw [exS_at (by rw [hs.1.len]; exact hp), kq x es]
    exact .inr rfl
theorem q_other_of (o : Option Int) : m_other_of [stayD o] = .ok (stayD (exY o)) := by
  rw [m_other_of, fnP1_s, b_other_of]
  cases o <;> simp -implicitDefEqProofs [stayD, exY]
theorem q_exst {s : List Int} (hl : s.length ≤ 1000) : m_exchanged_stand [cStand.d s] = .ok (cStand.d (exS s)) := by
  have lc := lcGo_map (chk := always) (g := g1_exchanged_stand) (t := tTrue) (e := e1_exchanged_stand) (ρ := [some (cStand.d s), none]) (h := []) D.int D.int (fun x => 1 - x) rfl s (by rw [line_eq]; omega) (fun x hx => by
    have q := q_other_of (some x)
    simp only [stayD, exY, Option.map_some] at q
    simp -implicitDefEqProofs [g1_exchanged_stand, e1_exchanged_stand, q])
  change _ = Out.ok ((exS s).map D.int) _ at lc
  rw [m_exchanged_stand, fnP1_s, b_exchanged_stand]
  simp -implicitDefEqProofs [lc, ← cStand_d]
theorem q_exst_y {ys : List (Option Int)} (hl : ys.length ≤ 1000) : m_exchanged_stand [.tup (ys.map stayD)] = .ok (.tup ((ys.map exY).map stayD)) := by
  have lc := lcGo_map (chk := always) (g := g1_exchanged_stand) (t := tTrue) (e := e1_exchanged_stand) (ρ := [some (.tup (ys.map stayD)), none]) (h := []) stayD stayD exY rfl ys (by rw [line_eq]; omega) (fun x hx => by
    have q := q_other_of x
    simp -implicitDefEqProofs [g1_exchanged_stand, e1_exchanged_stand, q])
  have er : resF [] 16 (.tup ((ys.map exY).map stayD)) = some (.tup ((ys.map exY).map stayD)) := (cTup cStay).hrs _ 16 _ (by decide)
  rw [m_exchanged_stand, fnP1_s, b_exchanged_stand]
  simp -implicitDefEqProofs [lc, er, -List.map_map]
theorem q_exchanged {n : Nat} {W : Web} (h : Shape n W) : m_exchanged [cWeb.d W] = .ok (cWeb.d (exW n W)) := by
  have hn := h.small
  have lc := lcGo_map (chk := always) (g := g1_exchanged) (t := tTrue) (e := e1_exchanged) (ρ := [some (cWeb.d W), none, none]) (h := []) (fun i : Nat => D.int (0 + (i : Nat))) D.int (fun p => 2 * wA W p - barA W p) rfl (List.range n) (range_small hn) (fun p hp => by
    have hp := List.mem_range.mp hp
    have q := q_weights h hp
    have eb := h.bar hp
    change _ = Res.ok (.int (wA W p)) at q
    simp -implicitDefEqProofs [g1_exchanged, e1_exchanged, q, eb])
  rw [← irange_eq] at lc
  have q := q_exst_y (ys := W.stays) (by rw [h.stays]; exact hn)
  have sn : ∀ hh : PH, snapF hh 16 (.tup (W.stays.map stayD)) = some (.tup (W.stays.map stayD)) := fun hh => (cTup cStay).hsn hh 16 _ (by decide)
  have er := res_web (h := []) (W := exW n W)
  rw [cWeb_d] at er
  change resF [] 16 (.tup [.tup (W.ties.map cRow.d), .tup (((List.range n).map fun p => 2 * wA W p - barA W p).map .int), .tup ((W.stays.map exY).map stayD)]) = _ at er
  rw [m_exchanged, fnP1_s, b_exchanged]
  simp -implicitDefEqProofs [h.ties, kR1_n (n := n) (by omega), lc, q, sn, line_eq, er, -List.map_map]
  rfl
end R
namespace R
open PySem PySem.Spec PyProof.Rows L2
def rowDf (n t : Nat) (a b : List Int) : List (Int × Int) := (List.range n).filterMap fun p => if vA a p = vA b p then none else some ((t : Int), (p : Int))
def dueL (n : Nat) (W V : Web) (s u : List Int) (k : Nat) : List (Int × Int) := (List.range k).flatMap fun t => rowDf n t (itI n W s t) (itI n V u t)
theorem rowDf_len {n t : Nat} {a b : List Int} : (rowDf n t a b).length ≤ n := by
  have := List.length_filterMap_le (fun p => if vA a p = vA b p then none else some ((t : Int), (p : Int))) (List.range n)
  simpa [rowDf] using this
theorem dueL_succ {n : Nat} {W V : Web} {s u : List Int} {k : Nat} : dueL n W V s u (k + 1) = dueL n W V s u k ++ rowDf n k (itI n W s k) (itI n V u k) := by
  unfold dueL
  rw [List.range_succ, List.flatMap_append]
  simp
theorem dueL_len {n : Nat} {W V : Web} {s u : List Int} : ∀ k, (dueL n W V s u k).length ≤ n * k
  | 0 => by simp [dueL]
  | k + 1 => by
    have := dueL_len (n := n) (W := W) (V := V) (s := s) (u := u) k
    have := rowDf_len (n := n) (t := k) (a := itI n W s k) (b := itI n V u k)
    rw [dueL_succ, List.length_append, Nat.mul_succ]
    omega
theorem dueL_bd {n : Nat} {W V : Web} {s u : List Int} {k : Nat} (h30 : n ≤ 30) (hk : k ≤ 401) : (dueL n W V s u k).length ≤ 12030 := by
  have := dueL_len (n := n) (W := W) (V := V) (s := s) (u := u) k
  have := Nat.mul_le_mul h30 hk
  omega
theorem rowDf_self {n t : Nat} {a : List Int} : rowDf n t a a = [] := by
  unfold rowDf
  rw [List.filterMap_eq_nil_iff]
  intro p _
  simp
theorem dueL_self {n : Nat} {W : Web} {s : List Int} : ∀ k, dueL n W W s s k = []
  | 0 => rfl
  | k + 1 => by rw [dueL_succ, dueL_self k, rowDf_self]; rfl
def rowDfP (t : Nat) (a b : List Int) (j : Nat) : List (Int × Int) := (List.range j).filterMap fun p => if vA a p = vA b p then none else some ((t : Int), (p : Int))
theorem rowDfP_succ {t : Nat} {a b : List Int} {j : Nat} : rowDfP t a b (j + 1) = rowDfP t a b j ++ (if vA a j = vA b j then [] else [((t : Int), (j : Int))]) := by
  unfold rowDfP
  rw [List.range_succ, List.filterMap_append]
  congr 1
  by_cases c : vA a j = vA b j
  · simp [c]
  · simp [c]
theorem rowDfP_len {t : Nat} {a b : List Int} {j : Nat} : (rowDfP t a b j).length ≤ j := by
  have := List.length_filterMap_le (fun p => if vA a p = vA b p then none else some ((t : Int), (p : Int))) (List.range j)
  simpa [rowDfP] using this
theorem pair_d {p : Int × Int} : (cPair cInt cInt).d p = dPair p := rfl
theorem q_differ {n : Nat} {W V : Web} (sh : Shape n W) (st : StayOk n W) (sh2 : Shape n V) (st2 : StayOk n V) (h30 : n ≤ 30) {s u : List Int} (hs : Stand n s ∧ fitsI W s = true) (hu : Stand n u ∧ fitsI V u = true) {k : Nat} (hk : k ≤ 400) : m_differ [cWeb.d W, cStand.d s, cWeb.d V, cStand.d u, .int k] = .ok (.lst .own ((dueL n W V s u (k + 1)).map dPair)) := by
  have h1 := q_history sh st hs hk
  have h2 := q_history sh2 st2 hu hk
  obtain ⟨Z, hZ⟩ : ∃ Z, Z = zipD ((goI n W s k).map cStand.d) ((goI n V u k).map cStand.d) := ⟨_, rfl⟩
  have eZ : Z = ((goI n W s k).zip (goI n V u k)).map fun p => .tup [cStand.d p.1, cStand.d p.2] := by rw [hZ]; exact zipD_map cStand.d cStand.d _ _
  have lZ : Z.length = k + 1 := by rw [eZ, List.length_map, List.length_zip, goI_len, goI_len]; omega
  have atZ : ∀ i, i < k + 1 → Z[i]? = some (.tup [cStand.d (itI n W s i), cStand.d (itI n V u i)]) := fun i hi => by
    have a1 := goI_at (n := n) (W := W) (s := s) (k := k) (i := i) (by omega)
    have a2 := goI_at (n := n) (W := V) (s := u) (k := k) (i := i) (by omega)
    have : ((goI n W s k).zip (goI n V u k))[i]? = some (itI n W s i, itI n V u i) := by
      rw [List.getElem?_zip_eq_some]
      exact ⟨a1, a2⟩
    rw [eZ, List.getElem?_map, this]
    rfl
  obtain ⟨ρ', h', ef, rfl, y7, y8, y9, rfl⟩ := forGo_sat (chk := always) (g := g2_differ) (body := w2_differ) (items := enumD Z) (ρ := [some (cWeb.d W), some (cStand.d s), some (cWeb.d V), some (cStand.d u), some (.int k), some (.loc 0), some (.lst .own Z), none, none, none]) (h := [.lst []])
    (fun i ρ h => h = [.lst ((dueL n W V s u i).map dPair)] ∧ ∃ y7 y8 y9, ρ = [some (cWeb.d W), some (cStand.d s), some (cWeb.d V), some (cStand.d u), some (.int k), some (.loc 0), some (.lst .own Z), y7, y8, y9]) ⟨rfl, none, none, none, rfl⟩ (fun _ _ _ _ _ => rfl) (by
    rintro i d ρ h hi ⟨rfl, y7, y8, y9, rfl⟩
    obtain ⟨hin, rfl⟩ : i < k + 1 ∧ d = .tup [.int i, .tup [cStand.d (itI n W s i), cStand.d (itI n V u i)]] := by
      have hl : i < (enumD Z).length := (List.getElem?_eq_some_iff.mp hi).1
      rw [enumD_len, lZ] at hl
      refine ⟨hl, ?_⟩
      unfold enumD at hi
      rw [List.getElem?_map, List.getElem?_zipIdx, atZ i hl] at hi
      simp at hi
      exact hi.symm
    have f1 := itI_fits sh st hs i
    have f2 := itI_fits sh2 st2 hu i
    obtain ⟨x, hx⟩ : ∃ x, x = itI n W s i := ⟨_, rfl⟩
    obtain ⟨y, hy⟩ : ∃ y, y = itI n V u i := ⟨_, rfl⟩
    rw [← hx] at f1
    rw [← hy] at f2
    have lx := f1.1.len
    have ly := f2.1.len
    have ls := hs.1.len
    obtain ⟨ρ2, h2', ef2, rfl, z9, rfl⟩ := forGo_sat (chk := always) (g := g1_differ) (body := w1_differ) (items := irange 0 n) (ρ := [some (cWeb.d W), some (cStand.d s), some (cWeb.d V), some (cStand.d u), some (.int k), some (.loc 0), some (.lst .own Z), some (.int i), some (.tup [cStand.d x, cStand.d y]), y9]) (h := [.lst ((dueL n W V s u i).map dPair)])
      (fun j ρ h => h = [.lst ((dueL n W V s u i ++ rowDfP i x y j).map dPair)] ∧ ∃ y9, ρ = [some (cWeb.d W), some (cStand.d s), some (cWeb.d V), some (cStand.d u), some (.int k), some (.loc 0), some (.lst .own Z), some (.int i), some (.tup [cStand.d x, cStand.d y]), y9]) ⟨by simp [rowDfP], y9, rfl⟩ (fun _ _ _ _ _ => rfl) (by
      rintro j d ρ h hj ⟨rfl, y9, rfl⟩
      obtain ⟨hjn, rfl⟩ := irange_at hj
      have e1 := vA_at (s := x) (p := j) (by omega)
      have e2 := vA_at (s := y) (p := j) (by omega)
      by_cases c : vA x j = vA y j
      · have r : rowDfP i x y (j + 1) = rowDfP i x y j := by rw [rowDfP_succ, if_pos c, List.append_nil]
        have e : ((g1_differ (.int j) [some (cWeb.d W), some (cStand.d s), some (cWeb.d V), some (cStand.d u), some (.int k), some (.loc 0), some (.lst .own Z), some (.int i), some (.tup [cStand.d x, cStand.d y]), y9] [.lst ((dueL n W V s u i ++ rowDfP i x y j).map dPair)]).bind w1_differ) = .ok (.nx [some (cWeb.d W), some (cStand.d s), some (cWeb.d V), some (cStand.d u), some (.int k), some (.loc 0), some (.lst .own Z), some (.int i), some (.tup [cStand.d x, cStand.d y]), some (.int j)]) [.lst ((dueL n W V s u i ++ rowDfP i x y j).map dPair)] := by
          simp -implicitDefEqProofs [g1_differ, w1_differ, e1, e2, c, -List.map_append]
        rw [e, sat_ok, r]
        exact ⟨rfl, _, rfl⟩
      · have r : rowDfP i x y (j + 1) = rowDfP i x y j ++ [((i : Int), (j : Int))] := by rw [rowDfP_succ, if_neg c]
        have z1 := dueL_bd (n := n) (W := W) (V := V) (s := s) (u := u) (k := i) h30 (by omega)
        have z2 := rowDfP_len (t := i) (a := x) (b := y) (j := j)
        have ty := tyM_at (n := 0) (h := [.lst ((dueL n W V s u i ++ rowDfP i x y j).map dPair)]) rfl
        have ap : fAppend (.loc 0) [.tup [.int i, .int j]] [.lst ((dueL n W V s u i ++ rowDfP i x y j).map dPair)] = .ok .non [.lst ((dueL n W V s u i ++ rowDfP i x y (j + 1)).map dPair)] := by
          rw [app_at (n := 0) rfl (by rw [line_eq, List.length_map, List.length_append]; omega), r, ← List.append_assoc, List.map_append (l₂ := [((i : Int), (j : Int))])]
          rfl
        have e : ((g1_differ (.int j) [some (cWeb.d W), some (cStand.d s), some (cWeb.d V), some (cStand.d u), some (.int k), some (.loc 0), some (.lst .own Z), some (.int i), some (.tup [cStand.d x, cStand.d y]), y9] [.lst ((dueL n W V s u i ++ rowDfP i x y j).map dPair)]).bind w1_differ) = .ok (.nx [some (cWeb.d W), some (cStand.d s), some (cWeb.d V), some (cStand.d u), some (.int k), some (.loc 0), some (.lst .own Z), some (.int i), some (.tup [cStand.d x, cStand.d y]), some (.int j)]) [.lst ((dueL n W V s u i ++ rowDfP i x y (j + 1)).map dPair)] := by
          simp -implicitDefEqProofs [g1_differ, w1_differ, e1, e2, c, ty, ap, line_eq, -List.map_append]
        rw [e, sat_ok]
        exact ⟨rfl, _, rfl⟩)
    rw [irange_len] at ef2
    have ed : dueL n W V s u i ++ rowDfP i x y n = dueL n W V s u (i + 1) := by rw [dueL_succ, hx, hy]; rfl
    rw [ed] at ef2
    have kr := fun hh => kR1_n (h := hh) (n := n) (by omega)
    have e : ((g2_differ (.tup [.int i, .tup [cStand.d x, cStand.d y]]) [some (cWeb.d W), some (cStand.d s), some (cWeb.d V), some (cStand.d u), some (.int k), some (.loc 0), some (.lst .own Z), y7, y8, y9] [.lst ((dueL n W V s u i).map dPair)]).bind w2_differ) = .ok (.nx [some (cWeb.d W), some (cStand.d s), some (cWeb.d V), some (cStand.d u), some (.int k), some (.loc 0), some (.lst .own Z), some (.int i), some (.tup [cStand.d x, cStand.d y]), z9]) [.lst ((dueL n W V s u (i + 1)).map dPair)] := by
      simp -implicitDefEqProofs [g2_differ, w2_differ, ls, kr, ef2]
    rw [← hx, ← hy, e, sat_ok]
    exact ⟨rfl, _, _, _, rfl⟩)
  rw [enumD_len, lZ] at ef
  have er : resF [.lst ((dueL n W V s u (k + 1)).map dPair)] 16 (.loc 0) = some (.lst .own ((dueL n W V s u (k + 1)).map dPair)) := res_loc_of (cPair cInt cInt) (by decide) (n := 0) rfl
  rw [m_differ, fnP5_s, b_differ]
  simp -implicitDefEqProofs [h1, h2, ← hZ, line_eq, ef, er]
theorem row_more {n : Nat} {T : List Tri} (k : TriOk n T) {a b : Nat} {w : Int} (an : a < n) (bn : b < n) (ne : a ≠ b) (le : oldW T a b ≤ w) {p : Nat} {f g : Nat → Int} (fg : ∀ q, q < n → 0 ≤ f q ∧ f q ≤ g q) : rowS f (rowC T p) ≤ rowS g (rowC (withT T a b w) p) := by
  have pb := rowS_perm (f := f) (row_back (p := p) (a := (a : Int)) (b := (b : Int)) (by omega) k)
  have ob := oldW_bd (a := (a : Int)) (b := (b : Int)) k.bd
  rw [← pb, rowC_append, rowS_append]
  unfold withT
  rw [rowC_append, rowS_append]
  have kf : ∀ t ∈ T.filter (fun t => !sameT a b t), triB n t := fun t ht => k.bd t (List.mem_filter.mp ht).1
  have h1 : rowS f (rowC (T.filter fun t => !sameT a b t) p) ≤ rowS g (rowC (T.filter fun t => !sameT a b t) p) := rowS_le fun x hx => by
    have := rowC_bd kf x hx
    exact Int.mul_le_mul_of_nonneg_left (fg x.1.toNat (by omega)).2 (by omega)
  have one : ∀ (x y v : Int) (h : Nat → Int), x ≠ y → rowS h (rowC [(x, y, v)] p) = if x = p then v * h y.toNat else if y = p then v * h x.toNat else 0 := fun x y v h xy => by
    simp only [rowC, List.flatMap_cons, List.flatMap_nil, List.append_nil, ctr]
    by_cases c1 : x = p
    · rw [if_pos c1, if_pos c1]; simp [rowS]
    · rw [if_neg c1, if_neg c1]
      by_cases c2 : y = p
      · rw [if_pos c2, if_pos c2]; simp [rowS]
      · rw [if_neg c2, if_neg c2]; simp [rowS]
  have fa := fg a an
  have fb := fg b bn
  have ma : oldW T a b * f a ≤ w * g a := Int.mul_le_mul le fa.2 fa.1 (by omega)
  have mb : oldW T a b * f b ≤ w * g b := Int.mul_le_mul le fb.2 fb.1 (by omega)
  have za : 0 ≤ w * g a := Int.mul_nonneg (by omega) (by omega)
  have zb : 0 ≤ w * g b := Int.mul_nonneg (by omega) (by omega)
  have nz : rowS f (rowC [] p) = 0 ∧ rowS g (rowC [] p) = 0 := ⟨rfl, rfl⟩
  have h2 : rowS f (rowC (if 0 < oldW T a b then [((b : Int), (a : Int), oldW T a b)] else []) p) ≤ rowS g (rowC (if 0 < w then [((a : Int), (b : Int), w)] else []) p) := by
    have np : ∀ q : Nat, ((q : Int)).toNat = q := fun q => Int.toNat_natCast q
    by_cases c0 : 0 < oldW T a b
    · rw [if_pos c0, if_pos (by omega), one _ _ _ _ (by omega), one _ _ _ _ (by omega), np, np]
      by_cases c1 : (a : Int) = p
      · rw [if_neg (by omega), if_pos c1, if_pos c1]; exact mb
      · rw [if_neg c1, if_neg c1]
        by_cases c2 : (b : Int) = p
        · rw [if_pos c2, if_pos c2]; exact ma
        · rw [if_neg c2, if_neg c2]; exact Int.le_refl _
    · rw [if_neg c0, nz.1]
      by_cases c3 : 0 < w
      · rw [if_pos c3, one _ _ _ _ (by omega), np, np]
        by_cases c1 : (a : Int) = p
        · rw [if_pos c1]; exact zb
        · rw [if_neg c1]
          by_cases c2 : (b : Int) = p
          · rw [if_pos c2]; exact za
          · rw [if_neg c2]; exact Int.le_refl _
      · rw [if_neg c3, nz.2]; exact Int.le_refl _
  omega
theorem MoreW.trans {n : Nat} {W V U : Web} (m : MoreW n W V) (l : MoreW n V U) : MoreW n W U :=
  ⟨fun p hp f g fg => Int.le_trans (m.tie p hp f g fg) (l.tie p hp g g fun q hq => ⟨by have := fg q hq; omega, Int.le_refl _⟩), fun p hp => Int.le_trans (l.bar p hp) (m.bar p hp), fun p hp => by
    have h1 := m.stay p hp
    have h2 := l.stay p hp
    unfold moreSt at *
    rcases h1 with e | e | ⟨e1, e2⟩
    · rw [e] at h2
      rcases h2 with z | z | ⟨z, _⟩
      · exact .inl z
      · cases z
      · cases z
    · exact .inr (.inl e)
    · rw [e2] at h2
      rcases h2 with z | z | ⟨_, z⟩
      · exact .inl z
      · cases z
      · exact .inr (.inr ⟨e1, z⟩)⟩
theorem more_tie {n : Nat} {T : List Tri} {bars : List Int} {stays : List (Option Int)} (k : TriOk n T) (st : StayOk n (webT n T bars stays)) {a b : Nat} {w : Int} (an : a < n) (bn : b < n) (ne : a ≠ b) (le : oldW T a b ≤ w) (w4 : w ≤ 400) : MoreW n (webT n T bars stays) (webT n (withT T a b w) bars stays) := by
  have k' := withT_ok k (a := a) (b := b) (w := w) (by omega) (by omega) (by omega) (by omega) (by omega) w4
  refine ⟨fun p hp f g fg => ?_, fun p hp => Int.le_refl _, fun p hp => moreSt.refl (st p hp)⟩
  rw [webT_row k hp, webT_row k' hp, rowS_perm (sortP_perm _), rowS_perm (sortP_perm _)]
  exact row_more k an bn ne le fg
theorem more_bar {n : Nat} {T : List Tri} {bars : List Int} {stays : List (Option Int)} (k : TriOk n T) (st : StayOk n (webT n T bars stays)) {a : Nat} {v : Int} (al : a < bars.length) (v0 : 0 ≤ v) : MoreW n (webT n T bars stays) (webT n T (bars.set a (vA bars a - v)) stays) := by
  refine ⟨fun p hp f g fg => ?_, fun p hp => ?_, fun p hp => moreSt.refl (st p hp)⟩
  · exact row_mono (webT_pos (bars := bars) (stays := stays) k) hp fg
  · show vA (bars.set a (vA bars a - v)) p ≤ vA bars p
    by_cases c : a = p
    · rw [← c, vA_set_same al]; omega
    · rw [vA_set_ne c]; exact Int.le_refl _
theorem stayA_set {n : Nat} {T : List Tri} {bars : List Int} {stays : List (Option Int)} {a p : Nat} {y : Option Int} (al : a < stays.length) : stayA (webT n T bars (stays.set a y)) p = if a = p then y else stayA (webT n T bars stays) p := by
  show (stays.set a y)[p]?.getD none = _
  by_cases c : a = p
  · rw [if_pos c, ← c, List.getElem?_set_self al]; rfl
  · rw [if_neg c, List.getElem?_set_ne c]; rfl
theorem more_stay {n : Nat} {T : List Tri} {bars : List Int} {stays : List (Option Int)} (k : TriOk n T) (st : StayOk n (webT n T bars stays)) {a : Nat} {y : Option Int} (al : a < stays.length) (hy : moreSt (stayA (webT n T bars stays) a) y) : MoreW n (webT n T bars stays) (webT n T bars (stays.set a y)) := by
  refine ⟨fun p hp f g fg => ?_, fun p hp => Int.le_refl _, fun p hp => ?_⟩
  · exact row_mono (webT_pos (bars := bars) (stays := stays) k) hp fg
  · rw [stayA_set al]
    by_cases c : a = p
    · rw [if_pos c, ← c]; exact hy
    · rw [if_neg c]; exact moreSt.refl (st p hp)
/-! ### where two histories differ -/
theorem mem_due {n : Nat} {W V : Web} {s u : List Int} {k : Nat} {x : Int × Int} : x ∈ dueL n W V s u k ↔ ∃ t p : Nat, t < k ∧ p < n ∧ x = ((t : Int), (p : Int)) ∧ vA (itI n W s t) p ≠ vA (itI n V u t) p := by
  unfold dueL rowDf
  rw [List.mem_flatMap]
  constructor
  · rintro ⟨t, ht, hx⟩
    obtain ⟨p, hp, e⟩ := List.mem_filterMap.mp hx
    by_cases c : vA (itI n W s t) p = vA (itI n V u t) p
    · rw [if_pos c] at e; cases e
    · rw [if_neg c] at e
      exact ⟨t, p, List.mem_range.mp ht, List.mem_range.mp hp, (Option.some.inj e).symm, c⟩
  · rintro ⟨t, p, ht, hp, rfl, c⟩
    exact ⟨t, List.mem_range.mpr ht, List.mem_filterMap.mpr ⟨p, List.mem_range.mpr hp, by rw [if_neg c]⟩⟩
def ltP (x y : Int × Int) : Prop := x.1 < y.1 ∨ (x.1 = y.1 ∧ x.2 < y.2)
theorem rowDf_ris {n t : Nat} {a b : List Int} : (rowDf n t a b).Pairwise ltP := by
  unfold rowDf
  rw [List.pairwise_filterMap]
  refine List.pairwise_lt_range.imp fun {p q} h x ex y ey => ?_
  by_cases c : vA a p = vA b p
  · rw [if_pos c] at ex; cases ex
  · by_cases d : vA a q = vA b q
    · rw [if_pos d] at ey; cases ey
    · rw [if_neg c] at ex
      rw [if_neg d] at ey
      cases ex
      cases ey
      exact .inr ⟨rfl, by show (p : Int) < q; omega⟩
theorem due_ris {n : Nat} {W V : Web} {s u : List Int} : ∀ k, (dueL n W V s u k).Pairwise ltP
  | 0 => by simp [dueL]
  | k + 1 => by
    rw [dueL_succ]
    refine List.pairwise_append.mpr ⟨due_ris k, rowDf_ris, fun x hx y hy => ?_⟩
    obtain ⟨t, p, ht, hp, rfl, _⟩ := mem_due.mp hx
    obtain ⟨q, hq, e⟩ := List.mem_filterMap.mp hy
    by_cases c : vA (itI n W s k) q = vA (itI n V u k) q
    · rw [if_pos c] at e; cases e
    · rw [if_neg c] at e
      cases e
      exact .inl (by show (t : Int) < k; omega)
theorem due_nd {n : Nat} {W V : Web} {s u : List Int} {k : Nat} : (dueL n W V s u k).Nodup := (due_ris k).imp fun {x y} h e => by
  subst e
  unfold ltP at h
  omega
theorem due_tri {n : Nat} {W M L : Web} {s m l : List Int} {k : Nat} (h1 : ∀ t, leS n (itI n W s t) (itI n M m t)) (h2 : ∀ t, leS n (itI n M m t) (itI n L l t)) (b1 : ∀ t, Stand n (itI n W s t)) (b2 : ∀ t, Stand n (itI n M m t)) (b3 : ∀ t, Stand n (itI n L l t)) :
    (dueL n W L s l k).Perm (dueL n W M s m k ++ dueL n M L m l k) := by
  have one : ∀ t p, p < n → (vA (itI n W s t) p = 0 ∨ vA (itI n W s t) p = 1) ∧ (vA (itI n M m t) p = 0 ∨ vA (itI n M m t) p = 1) ∧ (vA (itI n L l t) p = 0 ∨ vA (itI n L l t) p = 1) ∧ vA (itI n W s t) p ≤ vA (itI n M m t) p ∧ vA (itI n M m t) p ≤ vA (itI n L l t) p := fun t p hp => ⟨(b1 t).at hp, (b2 t).at hp, (b3 t).at hp, h1 t p hp, h2 t p hp⟩
  refine (List.perm_ext_iff_of_nodup due_nd (List.nodup_append.mpr ⟨due_nd, due_nd, ?_⟩)).mpr fun x => ?_
  · intro x hx y hy e
    subst e
    obtain ⟨t, p, ht, hp, rfl, c⟩ := mem_due.mp hx
    obtain ⟨t', p', ht', hp', e, d⟩ := mem_due.mp hy
    have e1 : t = t' := by have := congrArg Prod.fst e; simp only at this; omega
    have e2 : p = p' := by have := congrArg Prod.snd e; simp only at this; omega
    subst e1 e2
    have := one t p hp
    omega
  · rw [List.mem_append, mem_due, mem_due, mem_due]
    constructor
    · rintro ⟨t, p, ht, hp, rfl, c⟩
      have := one t p hp
      by_cases d : vA (itI n W s t) p = vA (itI n M m t) p
      · exact .inr ⟨t, p, ht, hp, rfl, by omega⟩
      · exact .inl ⟨t, p, ht, hp, rfl, d⟩
    · rintro (⟨t, p, ht, hp, rfl, c⟩ | ⟨t, p, ht, hp, rfl, c⟩) <;> have := one t p hp <;> exact ⟨t, p, ht, hp, rfl, by omega⟩
def prI (x : Int × Int) : List Int := [x.1, x.2]
theorem dPair_I (x : Int × Int) : dPair x = tupI (prI x) := rfl
theorem leS_pr {x y : Int × Int} (h : ltP x y) : leS' (prI x) (prI y) = true := by
  unfold leS' prI
  rw [HT.lexLt_cons]
  unfold ltP at h
  rcases h with h | ⟨h1, h2⟩
  · rw [if_neg (by omega)]
    simp; omega
  · rw [if_pos h1.symm, HT.lexLt_cons, if_neg (by omega)]
    simp; omega
theorem optAll_pr (L : List (Int × Int)) : optAll asInts (L.map dPair) = some (L.map prI) := optAll_of (f := asInts) dPair prI L fun x => rfl
theorem okS_pr {L : List (Int × Int)} (h : ∀ x ∈ L, 0 ≤ x.1 ∧ 0 ≤ x.2) : okS (L.map prI) = true := by
  cases L with
  | nil => rfl
  | cons x L =>
    rw [List.map_cons]
    unfold okS
    rw [Bool.and_eq_true, List.all_eq_true]
    refine ⟨rfl, fun r hr => ?_⟩
    obtain ⟨y, hy, rfl⟩ : ∃ y ∈ x :: L, prI y = r := by rw [← List.map_cons (f := prI)] at hr; exact List.mem_map.mp hr
    have := h y hy
    rw [Bool.and_eq_true, decide_eq_true_eq, List.all_eq_true]
    refine ⟨rfl, fun z hz => ?_⟩
    unfold prI at hz
    rw [decide_eq_true_eq]
    rcases List.mem_cons.mp hz with rfl | hz
    · exact this.1
    · rw [List.mem_singleton.mp hz]; exact this.2
theorem sortW_due {L C : List (Int × Int)} (pm : C.Perm L) (ris : C.Pairwise ltP) (nn : ∀ x ∈ C, 0 ≤ x.1 ∧ 0 ≤ x.2) (few : C.length ≤ 128) (t : Tg) (h : PH) : kSortW true (.lst t (L.map dPair)) h = .ok (.lst .own (C.map dPair)) h := by
  have g : getL h (.lst t (L.map dPair)) = some (L.map dPair) := rfl
  have inj : ∀ x y : Int × Int, prI x = prI y → x = y := fun x y e => by
    unfold prI at e
    injection e with e1 e2
    injection e2 with e2 _
    exact Prod.ext e1 e2
  have ndC : (C.map prI).Nodup := by
    rw [List.Nodup, List.pairwise_map]
    refine ris.imp fun {x y} h e => ?_
    have := inj x y e
    subst this
    unfold ltP at h
    omega
  have nd : (L.map prI).Nodup := (pm.map prI).nodup_iff.mp ndC
  have so : sortS (L.map prI) = C.map prI := (sortS_eq (pm.map prI) (by rw [List.pairwise_map]; exact ris.imp leS_pr)).symm
  have ok := okS_pr (L := L) fun x hx => nn x (pm.mem_iff.mpr hx)
  unfold kSortW
  rw [g, Option.bind_some, optAll_pr]
  simp only
  rw [if_pos ⟨ok, by rw [List.length_map, ← pm.length_eq]; exact few, nd⟩, so, List.map_map]
  rfl
theorem it_ex {n : Nat} {W : Web} (h : Shape n W) (st : StayOk n W) {s : List Int} (hs : Stand n s ∧ fitsI W s = true) : ∀ t, itI n (exW n W) (exS s) t = exS (itI n W s t)
  | 0 => rfl
  | t + 1 => by
    show turnI n (exW n W) (itI n (exW n W) (exS s) t) = exS (turnI n W (itI n W s t))
    rw [it_ex h st hs t, turn_ex h (itI_fits h st hs t).1]
theorem fm_congr {α β : Type} {f g : α → Option β} : ∀ {l : List α}, (∀ x ∈ l, f x = g x) → l.filterMap f = l.filterMap g
  | [], _ => rfl
  | x :: l, h => by rw [List.filterMap_cons, List.filterMap_cons, h x List.mem_cons_self, fm_congr fun y hy => h y (List.mem_cons_of_mem _ hy)]
theorem due_ex {n : Nat} {W V : Web} (h : Shape n W) (st : StayOk n W) (h' : Shape n V) (st' : StayOk n V) {s u : List Int} (hs : Stand n s ∧ fitsI W s = true) (hu : Stand n u ∧ fitsI V u = true) : ∀ k, dueL n (exW n V) (exW n W) (exS u) (exS s) k = dueL n W V s u k
  | 0 => rfl
  | k + 1 => by
    rw [dueL_succ, dueL_succ, due_ex h st h' st' hs hu k, it_ex h st hs, it_ex h' st' hu]
    congr 1
    have a1 := (itI_fits h st hs k).1.len
    have a2 := (itI_fits h' st' hu k).1.len
    unfold rowDf
    refine fm_congr fun p hp => ?_
    have hp := List.mem_range.mp hp
    rw [exS_at (by omega), exS_at (by omega)]
    by_cases c : vA (itI n W s k) p = vA (itI n V u k) p
    · rw [if_pos c, if_pos (by omega)]
    · rw [if_neg c, if_neg (by omega)]
end R
namespace R
open PySem PySem.Spec PyProof.Rows L2
theorem fSortI2 {h : PH} {a b : Int} : fSortI true [.lst .own [.int a, .int b]] h = .ok (.lst .own ((sortI [a, b]).map .int)) h := rfl
theorem sl2 {h : PH} {t : Tri} : oSl true (cTri.d t) none (some 2) h = .ok (.tup ([t.1, t.2.1].map .int)) h := rfl
theorem fm_sel (p : Tri → Bool) : ∀ T : List Tri, (T.filterMap fun t => if p t then some t else none) = T.filter p
  | [] => rfl
  | t :: T => by
    have ih := fm_sel p T
    by_cases c : p t = true
    · rw [List.filterMap_cons_some (b := t) (by rw [if_pos c]), List.filter_cons_of_pos c, ih]
    · rw [List.filterMap_cons_none (by rw [if_neg c]), List.filter_cons_of_neg c, ih]
structure ToldOk (n : Nat) (T : List Tri) (bars : List Int) (stays : List (Option Int)) (tot : List Int) : Prop where
  pos : 1 ≤ n
  n30 : n ≤ 30
  tri : TriOk n T
  bl : bars.length = n
  yl : stays.length = n
  yy : ∀ y ∈ stays, iStay y
  tl : tot.length = n
theorem q_put_at {ds : List D} {p : Nat} {d : D} (hp : p < ds.length) (hl : ds.length ≤ 1000) (e1 : ∀ h : PH, snapF h 16 (.tup ds) = some (.tup ds)) (e2 : ∀ h : PH, snapF h 16 d = some d) (er : ∀ h : PH, resF h 16 (.tup (ds.set p d)) = some (.tup (ds.set p d))) : m_put_at [.tup ds, .int p, d] = .ok (.tup (ds.set p d)) := by
  have t1 : ∀ h : PH, oSl true (.tup ds) none (some (p : Int)) h = .ok (.tup (ds.take p)) h := fun h => by rw [oSl_tup, cut_to]
  have t2 : ∀ h : PH, oSl true (.tup ds) (some ((p : Int) + 1)) none h = .ok (.tup (ds.drop (p + 1))) h := fun h => by rw [oSl_tup, show (p : Int) + 1 = ((p + 1 : Nat) : Int) by omega, cut_from]
  have t3 : ∀ h : PH, oAdd true (.tup (ds.take p)) (.tup [d]) h = .ok (.tup (ds.take p ++ [d])) h := fun h => by rw [oAdd_tup, if_pos (by simp [line_eq]; omega)]
  have t4 : ∀ h : PH, oAdd true (.tup (ds.take p ++ [d])) (.tup (ds.drop (p + 1))) h = .ok (.tup (ds.set p d)) h := fun h => by
    rw [oAdd_tup, if_pos (by simp [line_eq]; omega)]
    congr 2
    rw [List.set_eq_take_append_cons_drop, if_pos hp]
    simp
  rw [m_put_at, fnP3_s, b_put_at]
  simp -implicitDefEqProofs [t1, t2, t3, t4, line_eq, er, -List.map_take, -List.map_drop, -List.map_append]
theorem fm_filter (b : Int) : ∀ r : List (Int × Int), (r.filterMap fun x : Int × Int => if x.1 ≠ b then some x else none) = r.filter fun x => decide (x.1 ≠ b)
  | [] => rfl
  | x :: r => by
    have ih := fm_filter b r
    by_cases c : x.1 ≠ b
    · rw [List.filterMap_cons_some (b := x) (by rw [if_pos c]), List.filter_cons_of_pos (by simpa using c), ih]
    · rw [List.filterMap_cons_none (by rw [if_neg c]), List.filter_cons_of_neg (by simpa using c), ih]
theorem q_tied_to {n p : Nat} {r : List (Int × Int)} (hr : r.length ≤ 1000) {b w : Int} : m_tied_to [cRow.d r, .int b, .int w] = .ok (cRow.d (tiedI r b w)) := by
  have is : ∀ h : PH, itS (cRow.d r) h = .ok (r.map dPair, always) h := fun h => rfl
  have lc := lcGo_pure (chk := always) (g := g1_tied_to) (t := t1_tied_to) (e := e1_tied_to) (ρ := [some (cRow.d r), some (.int b), some (.int w), none, none]) (h := []) dPair dPair (fun x : Int × Int => if x.1 ≠ b then some x else none) rfl r [] (by rw [line_eq]; simp; omega) (fun x hx => by
    obtain ⟨i, j⟩ := x
    by_cases c : i = b
    · simp -implicitDefEqProofs [dPair, g1_tied_to, t1_tied_to, e1_tied_to, c]
    · simp -implicitDefEqProofs [dPair, g1_tied_to, t1_tied_to, e1_tied_to, c])
  have ff := fm_filter b r
  rw [ff, List.nil_append] at lc
  generalize hF : (r.filter fun x => decide (x.1 ≠ b)) = F at lc
  have lF : F.length ≤ 1000 := by rw [← hF]; exact Nat.le_trans (List.length_filter_le _ _) hr
  have so : ∀ (q : List (Int × Int)), fSortP true [.loc 0] [.lst (q.map dPair)] = .ok (.lst .own ((sortP q).map dPair)) [.lst (q.map dPair)] := fun q => fSortP_at (n := 0) rfl
  have er : ∀ (q : List (Int × Int)) (h : PH), resF h 16 (.tup ((sortP q).map dPair)) = some (.tup ((sortP q).map dPair)) := fun q h => cRow.hrs h 16 (sortP q) (by decide)
  have ty := tyM_at (n := 0) (h := [.lst (F.map dPair)]) rfl
  have ap : fAppend (.loc 0) [.tup [.int b, .int w]] [.lst (F.map dPair)] = .ok .non [.lst ((F ++ [(b, w)]).map dPair)] := by
    rw [app_at (n := 0) rfl (by rw [line_eq, List.length_map]; omega), List.map_append]
    rfl
  rw [m_tied_to, fnP3_s, b_tied_to]
  unfold tiedI
  rw [hF]
  by_cases c : 0 < w
  · simp -implicitDefEqProofs [is, lc, c, ty, ap, line_eq, so, er, -List.map_append]
    rfl
  · simp -implicitDefEqProofs [is, lc, c, so, er, -List.map_append]
    rfl
theorem q_ask_person {n : Nat} {W : Web} (ht : W.ties.length = n) {p : Nat} (hp : p < n) : m_ask_person [cWeb.d W, .int p] = .ok .non := by
  have a : (0 : Int) ≤ p ∧ (p : Int) ≤ (n : Int) - 1 := by omega
  rw [m_ask_person, fnP2_s, b_ask_person]
  simp -implicitDefEqProofs [ht, a.1, a.2, cTies]
theorem set_ties {T : List (List (Int × Int))} {p : Nat} {r : List (Int × Int)} : (T.map cRow.d).set p (cRow.d r) = (T.set p r).map cRow.d := by rw [List.map_set]
theorem q_put_row {T : List (List (Int × Int))} {p : Nat} {r : List (Int × Int)} (hp : p < T.length) (hl : T.length ≤ 1000) : m_put_at [cTies.d T, .int p, cRow.d r] = .ok (cTies.d (T.set p r)) := by
  have := q_put_at (ds := T.map cRow.d) (p := p) (d := cRow.d r) (by simpa using hp) (by simpa using hl) (fun h => cTies.hsn h 16 T (by decide)) (fun h => cRow.hsn h 16 r (by decide)) (fun h => by rw [set_ties]; exact cTies.hrs h 16 (T.set p r) (by decide))
  rw [set_ties] at this
  exact this
theorem q_put_int {xs : List Int} {p : Nat} {x : Int} (hp : p < xs.length) (hl : xs.length ≤ 1000) : m_put_at [cStand.d xs, .int p, .int x] = .ok (cStand.d (xs.set p x)) := by
  have e : (xs.map D.int).set p (.int x) = (xs.set p x).map D.int := by rw [List.map_set]
  have := q_put_at (ds := xs.map D.int) (p := p) (d := .int x) (by simpa using hp) (by simpa using hl) (fun h => cStand.hsn h 16 xs (by decide)) (fun h => rfl) (fun h => by rw [e]; exact cStand.hrs h 16 (xs.set p x) (by decide))
  rw [e] at this
  exact this
theorem q_put_stay {ys : List (Option Int)} {p : Nat} {y : Option Int} (hp : p < ys.length) (hl : ys.length ≤ 1000) : m_put_at [(cTup cStay).d ys, .int p, stayD y] = .ok ((cTup cStay).d (ys.set p y)) := by
  have e : (ys.map stayD).set p (stayD y) = (ys.set p y).map stayD := by rw [List.map_set]
  have := q_put_at (ds := ys.map stayD) (p := p) (d := stayD y) (by simpa using hp) (by simpa using hl) (fun h => (cTup cStay).hsn h 16 ys (by decide)) (fun h => cStay.hsn h 16 y (by decide)) (fun h => by rw [e]; exact (cTup cStay).hrs h 16 (ys.set p y) (by decide))
  rw [e] at this
  exact this
theorem q_with_tie {n : Nat} {W : Web} (h : Shape n W) {a b : Nat} {w : Int} (an : a < n) (bn : b < n) (ne : a ≠ b) (w0 : 0 ≤ w) (w4 : w ≤ 400) (lr : ∀ p, p < n → (rowA W p).length ≤ 1000) : m_with_tie [cWeb.d W, .int a, .int b, .int w] = .ok (cWeb.d ⟨(W.ties.set a (tiedI (rowA W a) b w)).set b (tiedI (rowA W b) a w), W.bars, W.stays⟩) := by
  have hn := h.small
  have pa := q_ask_person h.ties an
  have pb := q_ask_person h.ties bn
  have ra := (h.row an).1
  have rb := (h.row bn).1
  have ta := q_tied_to (n := n) (p := a) (lr a an) (b := (b : Int)) (w := w)
  have tb := q_tied_to (n := n) (p := b) (lr b bn) (b := (a : Int)) (w := w)
  have p1 := q_put_row (T := W.ties) (p := a) (r := tiedI (rowA W a) b w) (by rw [h.ties]; exact an) (by rw [h.ties]; exact hn)
  have p2 := q_put_row (T := W.ties.set a (tiedI (rowA W a) b w)) (p := b) (r := tiedI (rowA W b) a w) (by rw [List.length_set, h.ties]; exact bn) (by rw [List.length_set, h.ties]; exact hn)
  have i0 : ∀ h : PH, oIx (cWeb.d W) (.int 0) h = .ok (cTies.d W.ties) h := fun h => rfl
  have i1 : ∀ h : PH, oIx (cWeb.d W) (.int 1) h = .ok (cStand.d W.bars) h := fun h => rfl
  have i2 : ∀ h : PH, oIx (cWeb.d W) (.int 2) h = .ok ((cTup cStay).d W.stays) h := fun h => rfl
  have it : ∀ (p : Nat) (hh : PH), W.ties[p]? = some (rowA W p) → oIx (cTies.d W.ties) (.int p) hh = .ok (cRow.d (rowA W p)) hh := fun p hh e => row_ix e
  have s1 : ∀ (hh : PH) (T : List (List (Int × Int))), snapF hh 16 (cTies.d T) = some (cTies.d T) := fun hh T => cTies.hsn hh 16 T (by decide)
  have s2 : ∀ (hh : PH) (r : List (Int × Int)), snapF hh 16 (cRow.d r) = some (cRow.d r) := fun hh r => cRow.hsn hh 16 r (by decide)
  have ne' : ¬ (a : Int) = b := by omega
  have er : ∀ (hh : PH) (T : List (List (Int × Int))), resF hh 16 (.tup [cTies.d T, cStand.d W.bars, (cTup cStay).d W.stays]) = some (cWeb.d ⟨T, W.bars, W.stays⟩) := fun hh T => cWeb.hrs hh 16 ⟨T, W.bars, W.stays⟩ (by decide)
  rw [m_with_tie, fnP4_s, b_with_tie]
  simp -implicitDefEqProofs [pa, pb, ne', w0, w4, i0, i1, i2, it a _ ra, it b _ rb, s1, s2, ta, tb, p1, p2, line_eq, er]
theorem q_with_bar {n : Nat} {W : Web} (h : Shape n W) {a : Nat} {x : Int} (an : a < n) : m_with_bar [cWeb.d W, .int a, .int x] = .ok (cWeb.d ⟨W.ties, W.bars.set a x, W.stays⟩) := by
  have hn := h.small
  have pa := q_ask_person h.ties an
  have p1 := q_put_int (xs := W.bars) (p := a) (x := x) (by rw [h.bars]; exact an) (by rw [h.bars]; exact hn)
  have i0 : ∀ h : PH, oIx (cWeb.d W) (.int 0) h = .ok (cTies.d W.ties) h := fun h => rfl
  have i1 : ∀ h : PH, oIx (cWeb.d W) (.int 1) h = .ok (cStand.d W.bars) h := fun h => rfl
  have i2 : ∀ h : PH, oIx (cWeb.d W) (.int 2) h = .ok ((cTup cStay).d W.stays) h := fun h => rfl
  have er : ∀ (hh : PH) (b : List Int), resF hh 16 (.tup [cTies.d W.ties, cStand.d b, (cTup cStay).d W.stays]) = some (cWeb.d ⟨W.ties, b, W.stays⟩) := fun hh b => cWeb.hrs hh 16 ⟨W.ties, b, W.stays⟩ (by decide)
  rw [m_with_bar, fnP3_s, b_with_bar]
  simp -implicitDefEqProofs [pa, i0, i1, i2, p1, line_eq, er]
theorem q_with_stay {n : Nat} {W : Web} (h : Shape n W) {a : Nat} {y : Option Int} (hy : iStay y) (an : a < n) : m_with_stay [cWeb.d W, .int a, stayD y] = .ok (cWeb.d ⟨W.ties, W.bars, W.stays.set a y⟩) := by
  have hn := h.small
  have pa := q_ask_person h.ties an
  have p1 := q_put_stay (ys := W.stays) (p := a) (y := y) (by rw [h.stays]; exact an) (by rw [h.stays]; exact hn)
  have i0 : ∀ h : PH, oIx (cWeb.d W) (.int 0) h = .ok (cTies.d W.ties) h := fun h => rfl
  have i1 : ∀ h : PH, oIx (cWeb.d W) (.int 1) h = .ok (cStand.d W.bars) h := fun h => rfl
  have i2 : ∀ h : PH, oIx (cWeb.d W) (.int 2) h = .ok ((cTup cStay).d W.stays) h := fun h => rfl
  have s3 : ∀ hh : PH, snapF hh 16 ((cTup cStay).d W.stays) = some ((cTup cStay).d W.stays) := fun hh => (cTup cStay).hsn hh 16 W.stays (by decide)
  have er : ∀ (hh : PH) (b : List (Option Int)), resF hh 16 (.tup [cTies.d W.ties, cStand.d W.bars, (cTup cStay).d b]) = some (cWeb.d ⟨W.ties, W.bars, b⟩) := fun hh b => cWeb.hrs hh 16 ⟨W.ties, W.bars, b⟩ (by decide)
  have iy : m_is_stay [stayD y] = .ok (.bl true) := by
    rw [m_is_stay, fnP1_s, b_is_stay]
    rcases hy with rfl | rfl | rfl <;> simp -implicitDefEqProofs [stayD]
  have sy : ∀ hh : PH, snapF hh 16 (stayD y) = some (stayD y) := fun hh => cStay.hsn hh 16 y (by decide)
  rw [m_with_stay, fnP3_s, b_with_stay]
  simp -implicitDefEqProofs [pa, i0, i1, i2, iy, sy, s3, p1, line_eq, er]
def tellD (n : Nat) (T : List Tri) (bars : List Int) (stays : List (Option Int)) (tot : List Int) : D := .tup [.int n, .lst .own (T.map cTri.d), .lst .own (bars.map .int), .lst .own (stays.map stayD), .lst .own (tot.map .int)]
theorem ToldOk.shape {n : Nat} {T : List Tri} {bars tot : List Int} {stays : List (Option Int)} (g : ToldOk n T bars stays tot) : Shape n (webT n T bars stays) := webT_shape g.tri g.n30 g.bl g.yl
theorem ToldOk.stayOk {n : Nat} {T : List Tri} {bars tot : List Int} {stays : List (Option Int)} (g : ToldOk n T bars stays tot) : StayOk n (webT n T bars stays) := fun p hp => by
  have e := stayA_at (W := webT n T bars stays) (p := p) (by show p < stays.length; rw [g.yl]; exact hp)
  exact g.yy _ (List.mem_of_getElem? e)
theorem q_old47 {T : List Tri} (lT : T.length ≤ 2000) {a b : Int} : m__law_old [.lst .bor (T.map cTri.d), .int a, .int b] = .ok (.int (oldW T a b)) := by
  have it : ∀ h : PH, itS (.lst .bor (T.map cTri.d)) h = .ok (T.map cTri.d, always) h := fun h => rfl
  have lc := lcGo_pure (chk := always) (g := g1__law_old) (t := t1__law_old) (e := e1__law_old) (ρ := [some (.lst .bor (T.map cTri.d)), some (.int a), some (.int b), none, none]) (h := []) cTri.d D.int (fun t => if sameT a b t then some t.2.2 else none) rfl T [] (by rw [line_eq]; simp; omega) (fun t ht => by
    have s := sort_same a b t
    have z : fSortIT true [.tup ([t.1, t.2.1].map .int)] [] = .ok (.lst .own ((sortI [t.1, t.2.1]).map .int)) [] := by rw [fSortIT_ints]; rfl
    have nn : oEq (.lst .own ((sortI [t.1, t.2.1]).map .int)) (.lst .own ((sortI [a, b]).map .int)) [] = .ok (.bl (sameT a b t)) [] := by rw [oEq_lstI, s]
    have i2 : ∀ h : PH, oIx (cTri.d t) (.int 2) h = .ok (.int t.2.2) h := fun h => rfl
    cases c : sameT a b t <;> rw [c] at nn <;> simp -implicitDefEqProofs [g1__law_old, t1__law_old, e1__law_old, sl2, z, fSortI2, nn, i2, line_eq, -List.map_cons])
  rw [List.nil_append] at lc
  generalize hF : (T.filterMap fun t => if sameT a b t then some t.2.2 else none) = F at lc
  have lF : F.length ≤ 2000 := by rw [← hF]; exact Nat.le_trans (List.length_filterMap_le _ _) lT
  have oa : ∀ hh : PH, oAdd true (.lst .own (F.map .int)) (.lst .own [.int 0]) hh = .ok (.lst .own ((F ++ [0]).map .int)) hh := fun hh => by
    unfold oAdd
    simp only [getLx]
    rw [if_pos (by simp [line_eq]; omega), List.map_append]
    rfl
  have ox : ∀ hh : PH, oIx (.lst .own ((F ++ [0]).map .int)) (.int 0) hh = .ok (.int (oldW T a b)) hh := fun hh => by
    unfold oldW
    rw [hF, oIx_lst, show (0 : Int) = ((0 : Nat) : Int) from rfl, atI_nat', List.getElem?_map]
    cases F <;> rfl
  rw [m__law_old, fnP3_s, b__law_old]
  simp -implicitDefEqProofs [it, lc, oa, ox, line_eq, -List.map_append]
theorem cutL {ds : List D} {p : Nat} (hp : p < ds.length) (hl : ds.length ≤ 1000) (t : Tg) (d : D) : (∀ hh : PH, oSl true (.lst t ds) none (some (p : Int)) hh = .ok (.lst .own (ds.take p)) hh) ∧ (∀ hh : PH, oSl true (.lst t ds) (some ((p : Int) + 1)) none hh = .ok (.lst .own (ds.drop (p + 1))) hh) ∧
    (∀ hh : PH, oAdd true (.lst .own (ds.take p)) (.lst .own [d]) hh = .ok (.lst .own (ds.take p ++ [d])) hh) ∧ (∀ hh : PH, oAdd true (.lst .own (ds.take p ++ [d])) (.lst .own (ds.drop (p + 1))) hh = .ok (.lst .own (ds.set p d)) hh) := by
  have oa : ∀ (hh : PH) (x y : List D), x.length ≤ 1001 → y.length ≤ 1000 → oAdd true (.lst .own x) (.lst .own y) hh = .ok (.lst .own (x ++ y)) hh := fun hh x y hx hy => by
    unfold oAdd
    simp only [getLx]
    rw [if_pos (by simp [line_eq]; omega)]
    rfl
  have e : ds.take p ++ [d] ++ ds.drop (p + 1) = ds.set p d := by
    rw [List.set_eq_take_append_cons_drop, if_pos hp]
    simp
  refine ⟨fun hh => ?_, fun hh => ?_, fun hh => oa hh _ _ (by simp; omega) (by simp), fun hh => ?_⟩
  · show mkL true (cutG ds none (some (p : Int))) hh = _
    rw [cut_to]; rfl
  · show mkL true (cutG ds (some ((p : Int) + 1)) none) hh = _
    rw [show (p : Int) + 1 = ((p + 1 : Nat) : Int) by omega, cut_from]; rfl
  · rw [oa hh _ _ (by simp; omega) (by simp; omega), e]
theorem cutS {s : List Int} {p : Nat} (hp : p < s.length) (hl : s.length ≤ 1000) (x : Int) : (∀ hh : PH, oSl true (cStand.d s) none (some (p : Int)) hh = .ok (.tup ((s.map D.int).take p)) hh) ∧ (∀ hh : PH, oSl true (cStand.d s) (some ((p : Int) + 1)) none hh = .ok (.tup ((s.map D.int).drop (p + 1))) hh) ∧
    (∀ hh : PH, oAdd true (.tup ((s.map D.int).take p)) (.tup [.int x]) hh = .ok (.tup ((s.map D.int).take p ++ [.int x])) hh) ∧ (∀ hh : PH, oAdd true (.tup ((s.map D.int).take p ++ [.int x])) (.tup ((s.map D.int).drop (p + 1))) hh = .ok (cStand.d (s.set p x)) hh) := by
  have e : (s.map D.int).take p ++ [.int x] ++ (s.map D.int).drop (p + 1) = (s.set p x).map D.int := by
    rw [List.map_set, List.set_eq_take_append_cons_drop, if_pos (by simpa using hp)]
    simp
  refine ⟨fun hh => ?_, fun hh => ?_, fun hh => ?_, fun hh => ?_⟩
  · show oSl true (.tup (s.map D.int)) none (some (p : Int)) hh = _
    rw [oSl_tup, cut_to]
  · show oSl true (.tup (s.map D.int)) (some ((p : Int) + 1)) none hh = _
    rw [oSl_tup, show (p : Int) + 1 = ((p + 1 : Nat) : Int) by omega, cut_from]
  · rw [oAdd_tup, if_pos (by simp [line_eq]; omega)]
  · rw [oAdd_tup, if_pos (by simp [line_eq]; omega), e]
    rfl
theorem fit_set {n : Nat} {T : List Tri} {bars tot : List Int} {stays : List (Option Int)} (g : ToldOk n T bars stays tot) {a : Nat} (an : a < n) {s : List Int} (hs : Stand n s ∧ fitsI (webT n T bars stays) s = true) {y : Option Int} (hy : y = none ∨ y = some (vA s a)) (yy : ∀ z ∈ stays.set a y, iStay z) : Stand n s ∧ fitsI (webT n T bars (stays.set a y)) s = true := by
  have W' := webT_shape (bars := bars) (stays := stays.set a y) g.tri g.n30 g.bl (by rw [List.length_set]; exact g.yl)
  refine fits_of W' hs.1.len fun p hp => ⟨hs.1.at hp, ?_⟩
  rw [stayA_set (by rw [g.yl]; exact an)]
  by_cases c : a = p
  · rw [if_pos c, ← c]; exact hy
  · rw [if_neg c]
    have k := kept_of g.shape hs p hp
    cases e : stayA (webT n T bars stays) p with
    | none => exact .inl rfl
    | some x => exact .inr (by rw [k x e])
theorem fit_one {n : Nat} {T : List Tri} {bars tot : List Int} {stays : List (Option Int)} (g : ToldOk n T bars stays tot) {a : Nat} (an : a < n) {s : List Int} (hs : Stand n s ∧ fitsI (webT n T bars stays) s = true) : Stand n (s.set a 1) ∧ fitsI (webT n T bars (stays.set a (some 1))) (s.set a 1) = true := by
  have W' := webT_shape (bars := bars) (stays := stays.set a (some 1)) g.tri g.n30 g.bl (by rw [List.length_set]; exact g.yl)
  have ls := hs.1.len
  refine fits_of W' (by rw [List.length_set]; exact ls) fun p hp => ?_
  rw [stayA_set (by rw [g.yl]; exact an)]
  by_cases c : a = p
  · subst c
    rw [if_pos rfl, vA_set_same (by rw [ls]; exact an)]
    exact ⟨.inr rfl, .inr rfl⟩
  · rw [if_neg c, vA_set_ne c]
    have k := kept_of g.shape hs p hp
    refine ⟨hs.1.at hp, ?_⟩
    cases e : stayA (webT n T bars stays) p with
    | none => exact .inl rfl
    | some x => exact .inr (by rw [k x e])
theorem fit_same {n : Nat} {W V : Web} (h : Shape n W) (h' : Shape n V) (e : ∀ p, p < n → stayA V p = stayA W p) {s : List Int} (hs : Stand n s ∧ fitsI W s = true) : Stand n s ∧ fitsI V s = true :=
  fits_of h' hs.1.len fun p hp => ⟨hs.1.at hp, by
    rw [e p hp]
    have k := kept_of h hs p hp
    cases e : stayA W p with
    | none => exact .inl rfl
    | some x => exact .inr (by rw [k x e])⟩
theorem q_ones {n : Nat} {T : List Tri} {bars tot : List Int} {stays : List (Option Int)} (g : ToldOk n T bars stays tot) (lT : T.length ≤ 1990) {s : List Int} (hs : Stand n s ∧ fitsI (webT n T bars stays) s = true) {h : PH} {l : Nat} {o : HB} (ho : isSt o) (hl : l < h.length) :
    ∃ T' bars' stays' s' o', ToldOk n T' bars' stays' tot ∧ T'.length ≤ T.length + 1 ∧ MoreW n (webT n T bars stays) (webT n T' bars' stays') ∧ leS n s s' ∧ (Stand n s' ∧ fitsI (webT n T' bars' stays') s' = true) ∧
      m__law_for_ones [tellD n T bars stays tot, cWeb.d (webT n T bars stays), cStand.d s, .loc l] (h.set l o) = .ok (.tup [tellD n T' bars' stays' tot, cWeb.d (webT n T' bars' stays'), cStand.d s']) (h.set l o') := by
  have n1 := g.pos
  have n30 := g.n30
  have dg : ∀ (o : HB) (b : Int), isSt o → 0 < b → b < 1000000 → ∃ v o', 0 ≤ v ∧ v < b ∧ isSt o' ∧ m__law_digit [.loc l, .int b] (h.set l o) = .ok (.int v) (h.set l o') := fun o b ho b0 b1 => by
    obtain ⟨v, o', v0, v1, i, e⟩ := q_digitA (h := h.set l o) (l := l) (o := o) (by simp [hl]) ho b0 (by omega)
    rw [List.set_set] at e
    exact ⟨v, o', v0, v1, i, e⟩
  obtain ⟨v1, o1, v10, v11, i1, e1⟩ := dg o 3 ho (by omega) (by omega)
  obtain ⟨v2, o2, v20, v21, i2, e2⟩ := dg o1 n i1 (by omega) (by omega)
  obtain ⟨a, rfl⟩ : ∃ a : Nat, v2 = a := ⟨v2.toNat, by omega⟩
  have an : a < n := by omega
  obtain ⟨v3, o3, v30, v31, i3, e3⟩ := dg o2 40 i2 (by omega) (by omega)
  have W := g.shape
  have st := g.stayOk
  have wsn : ∀ (hh : PH) (V : Web), snapF hh 16 (cWeb.d V) = some (cWeb.d V) := fun hh V => cWeb.hsn hh 16 V (by decide)
  have two : ∀ (hh : PH) (x y : List D), x.length ≤ 2001 → y.length ≤ 1000 → oAdd true (.lst .own x) (.lst .own y) hh = .ok (.lst .own (x ++ y)) hh := fun hh x y hx hy => by
    unfold oAdd
    simp only [getLx]
    rw [if_pos (by simp [line_eq]; omega)]
    rfl
  by_cases cA : v1 = 0 ∧ 1 < n
  · obtain ⟨c1, c2⟩ := cA
    subst c1
    obtain ⟨v4, o4, v40, v41, i4, e4⟩ := dg o3 ((n : Int) - 1) i3 (by omega) (by omega)
    obtain ⟨b, eb, bn, ne⟩ : ∃ b : Nat, ((a : Int) + 1 + v4) % (n : Int) = b ∧ b < n ∧ a ≠ b := by
      by_cases c : (a : Int) + 1 + v4 < n
      · exact ⟨((a : Int) + 1 + v4).toNat, by rw [Int.emod_eq_of_lt (by omega) c]; omega, by omega, by omega⟩
      · refine ⟨((a : Int) + 1 + v4 - n).toNat, ?_, by omega, by omega⟩
        rw [← Int.sub_emod_right, Int.emod_eq_of_lt (by omega) (by omega)]
        omega
    have ob := oldW_bd (a := (a : Int)) (b := (b : Int)) g.tri.bd
    have qo := q_old47 (T := T) (by omega) (a := (a : Int)) (b := (b : Int))
    obtain ⟨w, ew, wo, w4⟩ : ∃ w : Int, (∀ hh : PH, fMin2 [.int 400, .int (oldW T a b + v3)] hh = .ok (.int w) hh) ∧ oldW T a b ≤ w ∧ w ≤ 400 := by
      by_cases c : oldW T a b + v3 < 400
      · exact ⟨oldW T a b + v3, fun hh => by simp [fMin2, c], by omega, by omega⟩
      · exact ⟨400, fun hh => by simp [fMin2, c], by omega, by omega⟩
    have lc := fun y0 => lcGo_pure (chk := always) (g := g1__law_for_ones) (t := t1__law_for_ones) (e := e1__law_for_ones) (ρ := [y0, some (cWeb.d (webT n T bars stays)), some (cStand.d s), some (.loc l), some (.int 0), some (.int a), some (.int v3), some (.int n), some (.lst .own (T.map cTri.d)), some (.lst .own (bars.map .int)), some (.lst .own (stays.map stayD)), some (.lst .own (tot.map .int)), some (.int b), some (.int w), none, none]) (h := h.set l o4) cTri.d cTri.d (fun t => if !sameT a b t then some t else none) rfl T [] (by rw [line_eq]; simp; omega) (fun t ht => by
      have s := sort_same a b t
      have z : fSortIT true [.tup ([t.1, t.2.1].map .int)] (h.set l o4) = .ok (.lst .own ((sortI [t.1, t.2.1]).map .int)) (h.set l o4) := by rw [fSortIT_ints]; rfl
      have nn : oNe (.lst .own ((sortI [t.1, t.2.1]).map .int)) (.lst .own ((sortI [(a : Int), (b : Int)]).map .int)) (h.set l o4) = .ok (.bl (!sameT a b t)) (h.set l o4) := by rw [oNe_lstI, s]
      cases c : sameT a b t <;> rw [c] at nn <;> simp -implicitDefEqProofs [g1__law_for_ones, t1__law_for_ones, e1__law_for_ones, sl2, z, fSortI2, nn, line_eq, -List.map_cons])
    simp only [fm_sel, List.nil_append] at lc
    have k' := withT_ok g.tri (a := a) (b := b) (w := w) (by omega) (by omega) (by omega) (by omega) (by omega) w4
    have lw : (withT T a b w).length ≤ T.length + 1 := by
      unfold withT
      rw [List.length_append]
      have := List.length_filter_le (fun t => !sameT a b t) T
      split <;> simp <;> omega
    have wdef : withT T a b w = (T.filter fun t => !sameT a b t) ++ (if 0 < w then [((a : Int), (b : Int), w)] else []) := rfl
    generalize hF : (T.filter fun t => !sameT a b t) = F at lc wdef
    have lF : F.length ≤ 2000 := by rw [← hF]; exact Nat.le_trans (List.length_filter_le _ _) (by omega)
    have q2 := q_with_tie W an bn ne (w := w) (by omega) w4 fun p hp => by
      rw [webT_row g.tri hp, (sortP_perm _).length_eq]
      have := rowC_len g.tri p
      omega
    rw [webT_row g.tri an, webT_row g.tri bn] at q2
    have f2 : (⟨((webT n T bars stays).ties.set a (tiedI (sortP (rowC T a)) b w)).set b (tiedI (sortP (rowC T b)) a w), (webT n T bars stays).bars, (webT n T bars stays).stays⟩ : Web) = webT n (withT T a b w) bars stays := by
      unfold webT
      rw [with_rows g.tri an bn ne w4]
    rw [f2] at q2
    have ad := fun hh => two hh (F.map cTri.d) [.tup [.int a, .int b, .int w]] (by simp; omega) (by simp)
    have c2' : decide ((1 : Int) < (n : Int)) = true := by rw [decide_eq_true_iff]; omega
    have itT : ∀ h : PH, itS (.lst .own (T.map cTri.d)) h = .ok (T.map cTri.d, always) h := fun h => rfl
    have n0 : 0 < n := by omega
    have sT : ∀ hh : PH, snapF hh 16 (.lst .own (T.map cTri.d)) = some (.lst .bor (T.map cTri.d)) := fun hh => snapk_of cTri (k := 14) (by decide) (t := .own)
    refine ⟨withT T a b w, bars, stays, s, o4, ⟨n1, n30, k', g.bl, g.yl, g.yy, g.tl⟩, lw, more_tie g.tri st an bn ne wo w4, fun p hp => Int.le_refl _, fit_same W (webT_shape k' n30 g.bl g.yl) (fun _ _ => rfl) hs, ?_⟩
    rw [m__law_for_ones, fnM4_s, b__law_for_ones]
    rw [wdef] at q2 ⊢
    by_cases c : 0 < w
    · rw [if_pos c] at q2 ⊢
      simp -implicitDefEqProofs [tellD, e1, e2, e3, e4, eb, c2', n0, qo, ew, lc, c, ad, wsn, q2, line_eq, -List.map_append]
      rw [List.map_append]
      rfl
    · rw [if_neg c, List.append_nil] at q2 ⊢
      simp -implicitDefEqProofs [tellD, e1, e2, e3, e4, eb, c2', n0, qo, ew, lc, c, wsn, q2, line_eq, -List.map_append]
  · by_cases cB : v1 = 1
    · subst cB
      have vb := vA_at (s := bars) (p := a) (by rw [g.bl]; exact an)
      obtain ⟨x, hx⟩ : ∃ x, x = vA bars a - v3 := ⟨_, rfl⟩
      have xb : ∀ hh : PH, oIx (.lst .own (bars.map .int)) (.int a) hh = .ok (.int (vA bars a)) hh := fun hh => by
        rw [oIx_lst, atI_nat', List.getElem?_map, vb]; rfl
      have bl' : (bars.set a x).length = n := by rw [List.length_set]; exact g.bl
      have vb2 : (bars.set a x)[a]? = some x := List.getElem?_set_self (by rw [g.bl]; exact an)
      have xb2 : ∀ hh : PH, oIx (.lst .own ((bars.set a x).map .int)) (.int a) hh = .ok (.int x) hh := fun hh => by
        rw [oIx_lst, atI_nat', List.getElem?_map, vb2]; rfl
      obtain ⟨t1, t2, t3, t4⟩ := cutL (ds := bars.map D.int) (p := a) (by rw [List.length_map, g.bl]; exact an) (by rw [List.length_map, g.bl]; omega) .own (.int x)
      rw [← List.map_set] at t4
      have q2 := q_with_bar (x := x) W an
      have f2 : (⟨(webT n T bars stays).ties, (webT n T bars stays).bars.set a x, (webT n T bars stays).stays⟩ : Web) = webT n T (bars.set a x) stays := rfl
      rw [f2] at q2
      refine ⟨T, bars.set a x, stays, s, o3, ⟨n1, n30, g.tri, bl', g.yl, g.yy, g.tl⟩, by omega, by rw [hx]; exact more_bar g.tri st (by rw [g.bl]; exact an) v30, fun p hp => Int.le_refl _, fit_same W (webT_shape g.tri n30 bl' g.yl) (fun _ _ => rfl) hs, ?_⟩
      rw [m__law_for_ones, fnM4_s, b__law_for_ones]
      simp -implicitDefEqProofs [tellD, e1, e2, e3, xb, ← hx, t1, t2, t3, t4, xb2, wsn, q2, line_eq, -List.map_set, -List.map_take, -List.map_drop, -List.map_append]
    · obtain ⟨y0, vy⟩ : ∃ y0, stays[a]? = some y0 := ⟨_, List.getElem?_eq_getElem (by rw [g.yl]; exact an)⟩
      have iy0 := g.yy y0 (List.mem_of_getElem? vy)
      have sy0 : stayA (webT n T bars stays) a = y0 := by show stays[a]?.getD none = y0; rw [vy]; rfl
      have xy : ∀ hh : PH, oIx (.lst .own (stays.map stayD)) (.int a) hh = .ok (stayD y0) hh := fun hh => by
        rw [oIx_lst, atI_nat', List.getElem?_map, vy]; rfl
      obtain ⟨y, hy, iy⟩ : ∃ y : Option Int, y = (if y0 = some 0 then none else some 1) ∧ iStay y := ⟨_, rfl, by split; exact .inl rfl; exact .inr (.inr rfl)⟩
      obtain ⟨kb, j, oq, fj, aj⟩ : ∃ (kb : Bool) (j : Int), (∀ hh : PH, oEq (stayD y0) (.int 0) hh = .ok (.bl kb) hh) ∧ (∀ hh : PH, fInt [.bl kb] hh = .ok (.int j) hh) ∧ atI [D.int 1, .non] j = some (stayD y) := by
        rw [hy]
        by_cases c : y0 = some 0
        · exact ⟨true, 1, fun hh => by rw [oEq_stay_int, decide_eq_true c], fun hh => rfl, by rw [if_pos c]; rfl⟩
        · exact ⟨false, 0, fun hh => by rw [oEq_stay_int, decide_eq_false c], fun hh => rfl, by rw [if_neg c]; rfl⟩
      have yl' : (stays.set a y).length = n := by rw [List.length_set]; exact g.yl
      have yy' : ∀ z ∈ stays.set a y, iStay z := fun z hz => by
        rcases List.mem_or_eq_of_mem_set hz with u | u
        · exact g.yy z u
        · rw [u]; exact iy
      obtain ⟨t1, t2, t3, t4⟩ := cutL (ds := stays.map stayD) (p := a) (by rw [List.length_map, g.yl]; exact an) (by rw [List.length_map, g.yl]; omega) .own (stayD y)
      rw [← List.map_set] at t4
      have q2 := q_with_stay (y := y) W iy an
      have f2 : (⟨(webT n T bars stays).ties, (webT n T bars stays).bars, (webT n T bars stays).stays.set a y⟩ : Web) = webT n T bars (stays.set a y) := rfl
      rw [f2] at q2
      have ysn : ∀ hh : PH, snapF hh 16 (stayD y) = some (stayD y) := fun hh => cStay.hsn hh 16 y (by decide)
      have cf : v1 = 0 → decide ((1 : Int) < (n : Int)) = false := fun z => by rw [decide_eq_false_iff_not]; exact fun y => cA ⟨z, by omega⟩
      have mo := more_stay (bars := bars) g.tri st (a := a) (y := y) (by rw [g.yl]; exact an) (by
        rw [sy0, hy]
        by_cases c : y0 = some 0
        · rw [if_pos c]; exact .inr (.inl c)
        · rw [if_neg c]; exact .inl rfl)
      have g' : ToldOk n T bars (stays.set a y) tot := ⟨n1, n30, g.tri, g.bl, yl', yy', g.tl⟩
      by_cases cy : y0 = some 0
      · have hy : y = none := by rw [hy, if_pos cy]
        have nq : ∀ hh : PH, oEq (stayD y) (.int 1) hh = .ok (.bl false) hh := fun hh => by rw [oEq_stay_int, hy]; rfl
        refine ⟨T, bars, stays.set a y, s, o3, g', by omega, mo, fun p hp => Int.le_refl _, fit_set g an hs (.inl hy) yy', ?_⟩
        rw [m__law_for_ones, fnM4_s, b__law_for_ones]
        by_cases c0 : v1 = 0
        · have cf := cf c0
          simp -implicitDefEqProofs [tellD, e1, e2, e3, c0, cf, xy, oq, fj, aj, nq, t1, t2, t3, t4, wsn, ysn, q2, line_eq, -oEq_stay_int, -List.map_set, -List.map_take, -List.map_drop, -List.map_append]
          done
        · simp -implicitDefEqProofs [tellD, e1, e2, e3, c0, cB, xy, oq, fj, aj, nq, t1, t2, t3, t4, wsn, ysn, q2, line_eq, -oEq_stay_int, -List.map_set, -List.map_take, -List.map_drop, -List.map_append]
          done
      · have hy : y = some 1 := by rw [hy, if_neg cy]
        have nq : ∀ hh : PH, oEq (stayD y) (.int 1) hh = .ok (.bl true) hh := fun hh => by rw [oEq_stay_int, hy]; rfl
        obtain ⟨u1, u2, u3, u4⟩ := cutS (s := s) (p := a) (by rw [hs.1.len]; exact an) (by rw [hs.1.len]; omega) 1
        have ft := fit_one g an hs
        rw [← hy] at ft
        refine ⟨T, bars, stays.set a y, s.set a 1, o3, g', by omega, mo, fun p hp => ?_, ft, ?_⟩
        · by_cases c : a = p
          · rw [← c, vA_set_same (by rw [hs.1.len]; exact an)]
            have := hs.1.at an
            omega
          · rw [vA_set_ne c]; exact Int.le_refl _
        rw [m__law_for_ones, fnM4_s, b__law_for_ones]
        by_cases c0 : v1 = 0
        · have cf := cf c0
          simp -implicitDefEqProofs [tellD, e1, e2, e3, c0, cf, xy, oq, fj, aj, nq, t1, t2, t3, t4, u1, u2, u3, u4, wsn, ysn, q2, line_eq, -oEq_stay_int, -List.map_set, -List.map_take, -List.map_drop, -List.map_append]
          done
        · simp -implicitDefEqProofs [tellD, e1, e2, e3, c0, cB, xy, oq, fj, aj, nq, t1, t2, t3, t4, u1, u2, u3, u4, wsn, ysn, q2, line_eq, -oEq_stay_int, -List.map_set, -List.map_take, -List.map_drop, -List.map_append]
          done
end R
namespace R
open PySem PySem.Spec PyProof.Rows L2
theorem q_apart {n : Nat} {W V : Web} (sh : Shape n W) (st : StayOk n W) (sh2 : Shape n V) (st2 : StayOk n V) (h30 : n ≤ 30) {s u : List Int} (hs : Stand n s ∧ fitsI W s = true) (hu : Stand n u ∧ fitsI V u = true) (le : ∀ t, leS n (itI n W s t) (itI n V u t)) {k : Nat} (hk : k ≤ 400) : m__law_apart [cWeb.d W, cStand.d s, cWeb.d V, cStand.d u, .int k] = .ok (.lst .own ((dueL n W V s u (k + 1)).map dPair)) := by
  have sw : ∀ (hh : PH) (X : Web), snapF hh 16 (cWeb.d X) = some (cWeb.d X) := fun hh X => cWeb.hsn hh 16 X (by decide)
  obtain ⟨ρ', h', ef, rfl, y6, y7, rfl⟩ := forGo_sat (chk := always) (g := g2__law_apart) (body := w2__law_apart) (items := irange 0 (k + 1)) (ρ := [some (cWeb.d W), some (cStand.d s), some (cWeb.d V), some (cStand.d u), some (.int k), some (.loc 0), none, none]) (h := [.lst []])
    (fun i ρ h => h = [.lst ((dueL n W V s u i).map dPair)] ∧ ∃ y6 y7, ρ = [some (cWeb.d W), some (cStand.d (itI n W s i)), some (cWeb.d V), some (cStand.d (itI n V u i)), some (.int k), some (.loc 0), y6, y7]) ⟨rfl, none, none, rfl⟩ (fun _ _ _ _ _ => rfl) (by
    rintro i d ρ h hi ⟨rfl, y6, y7, rfl⟩
    obtain ⟨hin, rfl⟩ := irange_at hi
    have f1 := itI_fits sh st hs i
    have f2 := itI_fits sh2 st2 hu i
    have lei := le i
    obtain ⟨x, hx⟩ : ∃ x, x = itI n W s i := ⟨_, rfl⟩
    obtain ⟨y, hy⟩ : ∃ y, y = itI n V u i := ⟨_, rfl⟩
    rw [← hx] at f1 lei
    rw [← hy] at f2 lei
    have lx := f1.1.len
    have ly := f2.1.len
    obtain ⟨ρ2, h2', ef2, rfl, z7, rfl⟩ := forGo_sat (chk := always) (g := g1__law_apart) (body := w1__law_apart) (items := irange 0 n) (ρ := [some (cWeb.d W), some (cStand.d x), some (cWeb.d V), some (cStand.d y), some (.int k), some (.loc 0), some (.int i), y7]) (h := [.lst ((dueL n W V s u i).map dPair)])
      (fun j ρ h => h = [.lst ((dueL n W V s u i ++ rowDfP i x y j).map dPair)] ∧ ∃ y7, ρ = [some (cWeb.d W), some (cStand.d x), some (cWeb.d V), some (cStand.d y), some (.int k), some (.loc 0), some (.int i), y7]) ⟨by simp [rowDfP], y7, rfl⟩ (fun _ _ _ _ _ => rfl) (by
      rintro j d ρ h hj ⟨rfl, y7, rfl⟩
      obtain ⟨hjn, rfl⟩ := irange_at hj
      have e1 := vA_at (s := x) (p := j) (by omega)
      have e2 := vA_at (s := y) (p := j) (by omega)
      have nl : ¬ vA y j < vA x j := by have := lei j hjn; omega
      by_cases c : vA x j = vA y j
      · have r : rowDfP i x y (j + 1) = rowDfP i x y j := by rw [rowDfP_succ, if_pos c, List.append_nil]
        have e : ((g1__law_apart (.int j) [some (cWeb.d W), some (cStand.d x), some (cWeb.d V), some (cStand.d y), some (.int k), some (.loc 0), some (.int i), y7] [.lst ((dueL n W V s u i ++ rowDfP i x y j).map dPair)]).bind w1__law_apart) = .ok (.nx [some (cWeb.d W), some (cStand.d x), some (cWeb.d V), some (cStand.d y), some (.int k), some (.loc 0), some (.int i), some (.int j)]) [.lst ((dueL n W V s u i ++ rowDfP i x y j).map dPair)] := by
          simp -implicitDefEqProofs [g1__law_apart, w1__law_apart, e1, e2, c, -List.map_append]
        rw [e, sat_ok, r]
        exact ⟨rfl, _, rfl⟩
      · have r : rowDfP i x y (j + 1) = rowDfP i x y j ++ [((i : Int), (j : Int))] := by rw [rowDfP_succ, if_neg c]
        have z1 := dueL_bd (n := n) (W := W) (V := V) (s := s) (u := u) (k := i) h30 (by omega)
        have z2 := rowDfP_len (t := i) (a := x) (b := y) (j := j)
        have ty := tyM_at (n := 0) (h := [.lst ((dueL n W V s u i ++ rowDfP i x y j).map dPair)]) rfl
        have ap : fAppend (.loc 0) [.tup [.int i, .int j]] [.lst ((dueL n W V s u i ++ rowDfP i x y j).map dPair)] = .ok .non [.lst ((dueL n W V s u i ++ rowDfP i x y (j + 1)).map dPair)] := by
          rw [app_at (n := 0) rfl (by rw [line_eq, List.length_map, List.length_append]; omega), r, ← List.append_assoc, List.map_append (l₂ := [((i : Int), (j : Int))])]
          rfl
        have e : ((g1__law_apart (.int j) [some (cWeb.d W), some (cStand.d x), some (cWeb.d V), some (cStand.d y), some (.int k), some (.loc 0), some (.int i), y7] [.lst ((dueL n W V s u i ++ rowDfP i x y j).map dPair)]).bind w1__law_apart) = .ok (.nx [some (cWeb.d W), some (cStand.d x), some (cWeb.d V), some (cStand.d y), some (.int k), some (.loc 0), some (.int i), some (.int j)]) [.lst ((dueL n W V s u i ++ rowDfP i x y (j + 1)).map dPair)] := by
          simp -implicitDefEqProofs [g1__law_apart, w1__law_apart, e1, e2, c, nl, ty, ap, line_eq, -List.map_append]
        rw [e, sat_ok]
        exact ⟨rfl, _, rfl⟩)
    rw [irange_len] at ef2
    have ed : dueL n W V s u i ++ rowDfP i x y n = dueL n W V s u (i + 1) := by rw [dueL_succ, hx, hy]; rfl
    rw [ed] at ef2
    have q1 := q_turn sh f1
    have q2 := q_turn sh2 f2
    have kr := fun hh => kR1_n (h := hh) (n := n) (by omega)
    have e : ((g2__law_apart (.int i) [some (cWeb.d W), some (cStand.d x), some (cWeb.d V), some (cStand.d y), some (.int k), some (.loc 0), y6, y7] [.lst ((dueL n W V s u i).map dPair)]).bind w2__law_apart) = .ok (.nx [some (cWeb.d W), some (cStand.d (turnI n W x)), some (cWeb.d V), some (cStand.d (turnI n V y)), some (.int k), some (.loc 0), some (.int i), z7]) [.lst ((dueL n W V s u (i + 1)).map dPair)] := by
      simp -implicitDefEqProofs [g2__law_apart, w2__law_apart, lx, kr, ef2, sw, q1, q2]
    have x1 : itI n W s (i + 1) = turnI n W x := by rw [hx]; rfl
    have y1 : itI n V u (i + 1) = turnI n V y := by rw [hy]; rfl
    rw [← hx, ← hy, e, sat_ok, x1, y1]
    exact ⟨rfl, _, _, rfl⟩)
  rw [irange_len] at ef
  have kr : ∀ hh : PH, kR1 [.int ((k : Int) + 1)] hh = .ok (irange 0 (k + 1), always) hh := fun hh => kR1_n (h := hh) (n := k + 1) (by omega)
  have er : resF [.lst ((dueL n W V s u (k + 1)).map dPair)] 16 (.loc 0) = some (.lst .own ((dueL n W V s u (k + 1)).map dPair)) := res_loc_of (cPair cInt cInt) (by decide) (n := 0) rfl
  rw [m__law_apart, fnP5_s, b__law_apart]
  simp -implicitDefEqProofs [line_eq, kr, ef, er]
end R
namespace R
open PySem PySem.Spec PyProof.Rows L2
abbrev WS := Web × List Int
def wsD (x : WS) : D := .tup [cWeb.d x.1, cStand.d x.2]
structure GoodW (n : Nat) (x : WS) : Prop where
  sh : Shape n x.1
  st : StayOk n x.1
  po : PosT n x.1
  fit : Stand n x.2 ∧ fitsI x.1 x.2 = true
structure RelW (n : Nat) (x y : WS) : Prop where
  more : MoreW n x.1 y.1
  le : leS n x.2 y.2
theorem RelW.refl {n : Nat} {x : WS} (g : GoodW n x) : RelW n x x := ⟨MoreW.refl g.po g.st, leS.refl⟩
theorem RelW.trans {n : Nat} {x y z : WS} (a : RelW n x y) (b : RelW n y z) : RelW n x z := ⟨a.more.trans b.more, a.le.trans b.le⟩
theorem RelW.it {n : Nat} {x y : WS} (g : GoodW n x) (g' : GoodW n y) (a : RelW n x y) : ∀ t, leS n (itI n x.1 x.2 t) (itI n y.1 y.2 t) := it_mono a.more g.sh g'.sh g.st g'.st g.fit g'.fit a.le
structure ChainW (n : Nat) (L : List WS) (y : WS) : Prop where
  good : ∀ x ∈ L, GoodW n x
  pw : L.Pairwise (RelW n)
  last : ∀ x ∈ L, RelW n x y
  at_ : L[L.length - 1]? = some y
theorem ChainW.more {n : Nat} {L : List WS} {y z : WS} (c : ChainW n L y) (g : GoodW n z) (r : RelW n y z) : ChainW n (L ++ [z]) z := by
  have to : ∀ x ∈ L, RelW n x z := fun x hx => (c.last x hx).trans r
  refine ⟨fun x hx => ?_, List.pairwise_append.mpr ⟨c.pw, by simp, fun x hx w hw => ?_⟩, fun x hx => ?_, ?_⟩
  · rcases List.mem_append.mp hx with z | z
    · exact c.good x z
    · rw [List.mem_singleton.mp z]; exact g
  · rw [List.mem_singleton.mp hw]; exact to x hx
  · rcases List.mem_append.mp hx with z | z
    · exact to x z
    · rw [List.mem_singleton.mp z]; exact RelW.refl g
  · rw [List.length_append, List.length_singleton, Nat.add_sub_cancel, List.getElem?_append_right (Nat.le_refl _), Nat.sub_self]
    rfl
theorem w1_law47 (ns : List Int) {n i : Nat} {T : List Tri} {bars tot : List Int} {stays : List (Option Int)} (g : ToldOk n T bars stays tot) (lT : T.length ≤ 1990) {s : List Int} (hs : Stand n s ∧ fitsI (webT n T bars stays) s = true) {L : List WS} (c : ChainW n L (webT n T bars stays, s)) (lL : L.length ≤ 100) {o : HB} {J : PH} {y4 y5 y7 y8 y9 y10 y11 y12 y13 y14 y15 y16 : Option D} :
    ∃ T' bars' stays' s' o', ToldOk n T' bars' stays' tot ∧ T'.length ≤ T.length + 1 ∧ (Stand n s' ∧ fitsI (webT n T' bars' stays') s' = true) ∧ ChainW n (L ++ [(webT n T' bars' stays', s')]) (webT n T' bars' stays', s') ∧
      ((g1_law (.int i) [some (.lst .cst (ns.map D.int)), some (tellD n T bars stays tot), some (cWeb.d (webT n T bars stays)), some (cStand.d s), y4, y5, some (.loc 1), y7, y8, y9, y10, y11, y12, y13, y14, y15, y16] (o :: .lst (L.map wsD) :: J)).bind w1_law) =
        .ok (.nx [some (.lst .cst (ns.map D.int)), some (tellD n T' bars' stays' tot), some (cWeb.d (webT n T' bars' stays')), some (cStand.d s'), y4, y5, some (.loc 1), some (.int i), y8, y9, y10, y11, y12, y13, y14, y15, y16]) (o :: .lst ((L ++ [(webT n T' bars' stays', s')]).map wsD) :: (J ++ [o'])) := by
  obtain ⟨o1, io, eo⟩ := q_stateT ns (z := 43 + (i : Int)) (by omega)
  have eo := eo (o :: .lst (L.map wsD) :: J)
  obtain ⟨T', bars', stays', s', o', g', l', mo, le, fit, es⟩ := q_ones g lT hs (h := (o :: .lst (L.map wsD) :: J) ++ [o1]) (l := (o :: HB.lst (L.map wsD) :: J).length) (o := o1) io (by simp)
  have h1 : ∀ z : HB, ((o :: .lst (L.map wsD) :: J) ++ [o1]).set (o :: HB.lst (L.map wsD) :: J).length z = o :: .lst (L.map wsD) :: (J ++ [z]) := fun z => by rw [app_s0 rfl]; rfl
  have h2 : ((o :: .lst (L.map wsD) :: J) ++ [o1] : PH) = o :: .lst (L.map wsD) :: (J ++ [o1]) := rfl
  rw [h1, h1] at es
  rw [h2] at eo
  simp only [List.length_cons] at es eo
  have gd : GoodW n (webT n T' bars' stays', s') := ⟨g'.shape, g'.stayOk, webT_pos g'.tri, fit⟩
  have ch := c.more gd ⟨mo, le⟩
  have sT : ∀ hh : PH, snapF hh 16 (.lst .own (T'.map cTri.d)) = some (.lst .bor (T'.map cTri.d)) := fun hh => snapk_of cTri (k := 14) (by decide) (t := .own)
  have qw := q_web_of (t1 := .bor) (t2 := .bor) (t3 := .bor) (B := some bars') (Y := some stays') g'.tri g'.pos g'.n30 (fun b e => by cases e; exact g'.bl) (fun y e => by cases e; exact ⟨g'.yl, g'.yy⟩)
  simp only [lstO, barsO, staysO] at qw
  have i0 : ∀ h : PH, oIx (tellD n T' bars' stays' tot) (.int 0) h = .ok (.int n) h := fun h => rfl
  have i1 : ∀ h : PH, oIx (tellD n T' bars' stays' tot) (.int 1) h = .ok (.lst .own (T'.map cTri.d)) h := fun h => rfl
  have i2 : ∀ h : PH, oIx (tellD n T' bars' stays' tot) (.int 2) h = .ok (.lst .own (bars'.map .int)) h := fun h => rfl
  have i3 : ∀ h : PH, oIx (tellD n T' bars' stays' tot) (.int 3) h = .ok (.lst .own (stays'.map stayD)) h := fun h => rfl
  have f1 : ∀ (h : PH) (ds : List D), fList true [.lst .own ds] h = .ok (.lst .own ds) h := fun h ds => rfl
  have s1 : ∀ h : PH, snapF h 16 (.lst .own (T'.map cTri.d)) = some (.lst .bor (T'.map cTri.d)) := sT
  have s2 : ∀ h : PH, snapF h 16 (.lst .own (bars'.map .int)) = some (.lst .bor (bars'.map .int)) := fun h => snap_lstI
  have s3 : ∀ h : PH, snapF h 16 (.lst .own (stays'.map stayD)) = some (.lst .bor (stays'.map stayD)) := fun h => snap_lstY
  have nw : ∀ hh : PH, oNe (cWeb.d (webT n T' bars' stays')) (cWeb.d (webT n T' bars' stays')) hh = .ok (.bl false) hh := fun hh => by rw [oNe_cd cWeb (by decide)]; simp
  have ty := tyM_at (n := 1) (h := o :: .lst (L.map wsD) :: (J ++ [o'])) rfl
  have ap : fAppend (.loc 1) [.tup [cWeb.d (webT n T' bars' stays'), cStand.d s']] (o :: .lst (L.map wsD) :: (J ++ [o'])) = .ok .non (o :: .lst ((L ++ [(webT n T' bars' stays', s')]).map wsD) :: (J ++ [o'])) := by
    rw [app_at (n := 1) rfl (by rw [line_eq, List.length_map]; omega), List.map_append]
    rfl
  refine ⟨T', bars', stays', s', o', g', l', fit, ch, ?_⟩
  simp -implicitDefEqProofs [g1_law, w1_law, eo, es, ty, ap, i0, i1, i2, i3, f1, s1, s2, s3, qw, nw, line_eq, -List.map_append]
theorem w2_law47 {n : Nat} (h30 : n ≤ 30) {x y : WS} (gx : GoodW n x) (gy : GoodW n y) (r : RelW n x y) {k : Nat} (hk : k ≤ 400) {H : PH} {rows : List (List (Int × Int))} (lr : rows.length ≤ 100) {y0 y1 y2 y3 y4 y6 y7 y9 y10 y11 y12 y13 y14 y15 y16 : Option D} : ∃ z14 z15 z16,
    ((g2_law (.tup [wsD x, wsD y]) [y0, y1, y2, y3, y4, some (.int k), y6, y7, some (.loc H.length), y9, y10, y11, y12, y13, y14, y15, y16] (H ++ [.lst (rows.map fun r => .lst .own (r.map dPair))])).bind w2_law) =
      .ok (.nx [y0, y1, y2, y3, y4, some (.int k), y6, y7, some (.loc H.length), y9, y10, y11, some (wsD x), some (wsD y), z14, z15, z16]) (H ++ [.lst ((rows ++ [dueL n x.1 y.1 x.2 y.2 (k + 1)]).map fun r => .lst .own (r.map dPair))]) := by
  have q1 := q_apart gx.sh gx.st gy.sh gy.st h30 gx.fit gy.fit (r.it gx gy) hk
  have q2 := q_differ gx.sh gx.st gy.sh gy.st h30 gx.fit gy.fit hk
  have q3 := q_exchanged gx.sh
  have q4 := q_exchanged gy.sh
  have q5 := q_exst (s := x.2) (by rw [gx.fit.1.len]; omega)
  have q6 := q_exst (s := y.2) (by rw [gy.fit.1.len]; omega)
  have q7 := q_differ (exW_shape gy.sh) (exW_stayOk gy.sh gy.st) (exW_shape gx.sh) (exW_stayOk gx.sh gx.st) h30 (ex_fits gy.sh gy.fit) (ex_fits gx.sh gx.fit) hk
  rw [due_ex gx.sh gx.st gy.sh gy.st gx.fit gy.fit] at q7
  generalize dueL n x.1 y.1 x.2 y.2 (k + 1) = C at q1 q2 q7 ⊢
  have sw : ∀ (hh : PH) (X : Web), snapF hh 16 (cWeb.d X) = some (cWeb.d X) := fun hh X => cWeb.hsn hh 16 X (by decide)
  have x0 : ∀ (hh : PH) (z : WS), oIx (wsD z) (.int 0) hh = .ok (cWeb.d z.1) hh := fun hh z => rfl
  have x1 : ∀ (hh : PH) (z : WS), oIx (wsD z) (.int 1) hh = .ok (cStand.d z.2) hh := fun hh z => rfl
  have t0 : ∀ (hh : PH) (p q : D), oIx (.tup [p, q]) (.int 0) hh = .ok p hh := fun hh p q => rfl
  have t1 : ∀ (hh : PH) (p q : D), oIx (.tup [p, q]) (.int 1) hh = .ok q hh := fun hh p q => rfl
  have ne : ∀ hh : PH, oNe (.lst .own (C.map dPair)) (.lst .own (C.map dPair)) hh = .ok (.bl false) hh := fun hh => by
    have := oNe_lst_of (cPair cInt cInt) (by decide) (h := hh) (t := .own) (t' := .own) (xs := C) (ys := C)
    simp only [decide_true, Bool.not_true] at this
    exact this
  have at0 : (H ++ [HB.lst (rows.map fun r => D.lst .own (r.map dPair))])[H.length]? = some (.lst (rows.map fun r => D.lst .own (r.map dPair))) := by rw [app_i0 rfl]; rfl
  have ty := tyM_at at0
  have ap : fAppend (.loc H.length) [.lst .own (C.map dPair)] (H ++ [.lst (rows.map fun r => .lst .own (r.map dPair))]) = .ok .non (H ++ [.lst ((rows ++ [C]).map fun r => .lst .own (r.map dPair))]) := by
    rw [app_at at0 (by rw [line_eq, List.length_map]; omega), app_s0 rfl, List.map_append]
    rfl
  refine ⟨some (.lst .own (C.map dPair)), some (.lst .own (C.map dPair)), some (.tup [cWeb.d (exW n x.1), cStand.d (exS x.2)]), ?_⟩
  simp -implicitDefEqProofs [g2_law, w2_law, x0, x1, t0, t1, sw, q1, q2, q3, q4, q5, q6, q7, ne, ty, ap, line_eq, -List.map_append]
theorem law_true (ns : List Int) (_ : ns.length ≤ 63) (_ : ∀ z ∈ ns, Builtin.Int.intBits z ≤ 1048576) : m_law [.lst .cst (ns.map D.int)] = .ok (.bl true) := by
  obtain ⟨n, T, bars, stays, n16, k, ep⟩ := q_people ns
  have tl : (totL n T).length = n := by simp [totL]
  have g : ToldOk n T bars stays (totL n T) := ⟨k.pos, k.n30, k.tri, k.bl, k.yl, k.yy, tl⟩
  have n30 := k.n30
  have qw := q_web_of (t1 := .bor) (t2 := .bor) (t3 := .bor) (B := some bars) (Y := some stays) k.tri k.pos k.n30 (fun b e => by cases e; exact k.bl) (fun y e => by cases e; exact ⟨k.yl, k.yy⟩)
  simp only [lstO, barsO, staysO] at qw
  obtain ⟨s, f1, f2, es⟩ := q_standA k ns (z := 41) (by omega) .bor
  have hs : Stand n s ∧ fitsI (webT n T bars stays) s = true := ⟨f1, f2⟩
  obtain ⟨o, io, eo⟩ := q_stateT ns (z := 42) (by omega)
  have eo := eo []
  simp only [List.length_nil, List.nil_append] at eo
  obtain ⟨v, o1, v0, v1, i1, ev⟩ := q_digitA (h := [o]) (l := 0) rfl io (b := 7) (by omega) (by omega)
  have ev : m__law_digit [.loc 0, .int 7] [o] = .ok (.int v) [o1] := ev
  obtain ⟨turns, rfl⟩ : ∃ m : Nat, v = m := ⟨v.toNat, by omega⟩
  obtain ⟨v2, o2, v20, v21, i2, ev2⟩ := q_digitA (h := [o1, .lst [wsD (webT n T bars stays, s)]]) (l := 0) rfl i1 (b := 5) (by omega) (by omega)
  have ev2 : m__law_digit [.loc 0, .int 5] [o1, .lst [wsD (webT n T bars stays, s)]] = .ok (.int v2) [o2, .lst [wsD (webT n T bars stays, s)]] := ev2
  obtain ⟨m, hm, m1⟩ : ∃ m : Nat, 1 + v2 = m ∧ 1 ≤ m := ⟨(1 + v2).toNat, by omega, by omega⟩
  have lT := k.tl
  have gd : GoodW n (webT n T bars stays, s) := ⟨g.shape, g.stayOk, webT_pos g.tri, hs⟩
  have ch : ChainW n [(webT n T bars stays, s)] (webT n T bars stays, s) := ⟨fun x hx => by rw [List.mem_singleton.mp hx]; exact gd, by simp, fun x hx => by rw [List.mem_singleton.mp hx]; exact RelW.refl gd, rfl⟩
  obtain ⟨ρ1, h1, ef, T1, bars1, stays1, s1, L, J, y7, g1, l1, hs1, c1, lL, rfl, rfl⟩ := forGo_sat (chk := always) (g := g1_law) (body := w1_law) (items := irange 0 m) (ρ := [some (.lst .cst (ns.map D.int)), some (tellD n T bars stays (totL n T)), some (cWeb.d (webT n T bars stays)), some (cStand.d s), some (.loc 0), some (.int turns), some (.loc 1), none, none, none, none, none, none, none, none, none, none]) (h := [o2, .lst [wsD (webT n T bars stays, s)]])
    (fun i ρ h => ∃ T1 bars1 stays1 s1 L J y7, ToldOk n T1 bars1 stays1 (totL n T) ∧ T1.length ≤ 1000 + i ∧ (Stand n s1 ∧ fitsI (webT n T1 bars1 stays1) s1 = true) ∧ ChainW n L (webT n T1 bars1 stays1, s1) ∧ L.length = i + 1 ∧ h = o2 :: .lst (L.map wsD) :: J ∧ ρ = [some (.lst .cst (ns.map D.int)), some (tellD n T1 bars1 stays1 (totL n T)), some (cWeb.d (webT n T1 bars1 stays1)), some (cStand.d s1), some (.loc 0), some (.int turns), some (.loc 1), y7, none, none, none, none, none, none, none, none, none])
    ⟨T, bars, stays, s, _, [], none, g, by omega, hs, ch, rfl, rfl, rfl⟩ (fun _ _ _ _ _ => rfl) (by
    rintro i d ρ h hi ⟨T1, bars1, stays1, s1, L, J, y7, g1, l1, hs1, c1, lL, rfl, rfl⟩
    obtain ⟨him, rfl⟩ := irange_at hi
    obtain ⟨T2, bars2, stays2, s2, o', g2, l2, hs2, c2, e⟩ := w1_law47 ns (i := i) g1 (by omega) hs1 c1 (by omega) (o := o2) (J := J) (y4 := some (.loc 0)) (y5 := some (.int turns)) (y7 := y7) (y8 := none) (y9 := none) (y10 := none) (y11 := none) (y12 := none) (y13 := none) (y14 := none) (y15 := none) (y16 := none)
    rw [e, sat_ok]
    exact ⟨T2, bars2, stays2, s2, _, _, _, g2, by omega, hs2, c2, by rw [List.length_append, List.length_singleton, lL], rfl, rfl⟩)
  rw [irange_len] at lL
  obtain ⟨x, hx⟩ : ∃ x, L[0]? = some x := ⟨_, List.getElem?_eq_getElem (by omega)⟩
  obtain ⟨N, hN⟩ : ∃ N, N = L.length := ⟨_, rfl⟩
  obtain ⟨y, hy⟩ : ∃ y, L[N / 2]? = some y := ⟨_, List.getElem?_eq_getElem (by omega)⟩
  obtain ⟨z, hz⟩ : ∃ z, z = (webT n T1 bars1 stays1, s1) := ⟨_, rfl⟩
  have zat := c1.at_
  have zl := c1.last
  rw [← hz] at zat zl
  have gx := c1.good x (List.mem_of_getElem? hx)
  have gy := c1.good y (List.mem_of_getElem? hy)
  have gz := c1.good z (List.mem_of_getElem? zat)
  have rxy : RelW n x y := by
    obtain ⟨p, e1⟩ := List.getElem?_eq_some_iff.mp hx
    obtain ⟨q, e2⟩ := List.getElem?_eq_some_iff.mp hy
    have := List.pairwise_iff_getElem.mp c1.pw 0 (N / 2) p q (by omega)
    rw [e1, e2] at this
    exact this
  have ryz := zl y (List.mem_of_getElem? hy)
  have rxz := zl x (List.mem_of_getElem? hx)
  obtain ⟨W1, hW1⟩ : ∃ W1, W1 = cWeb.d (webT n T1 bars1 stays1) := ⟨_, rfl⟩
  obtain ⟨H, hH⟩ : ∃ H : PH, H = o2 :: .lst (L.map wsD) :: J := ⟨_, rfl⟩
  have H1 : H[1]? = some (.lst (L.map wsD)) := by rw [hH]; rfl
  rw [← hH, ← hW1] at ef
  have ix0 : oIx (.loc 1) (.int 0) H = .ok (wsD x) H := by
    rw [oIx_loc, H1]
    show ofGet H (atI (L.map wsD) ((0 : Nat) : Int)) = _
    rw [atI_nat', List.getElem?_map, hx]; rfl
  have ixm : oIx (.loc 1) (.int ((N / 2 : Nat) : Int)) H = .ok (wsD y) H := by
    rw [oIx_loc, H1]
    show ofGet H (atI (L.map wsD) ((N / 2 : Nat) : Int)) = _
    rw [atI_nat', List.getElem?_map, hy]; rfl
  have ixl : oIx (.loc 1) (.int (-1)) H = .ok (wsD z) H := by
    rw [oIx_loc, H1]
    show ofGet H (atI (L.map wsD) (-((1 : Nat) : Int))) = _
    rw [atI_neg (by omega) (by rw [List.length_map]; omega), List.getElem?_map, List.length_map, zat]; rfl
  have fl : fLen [.loc 1] H = .ok (.int (N : Nat)) H := by rw [fLen_loc H1, List.length_map, ← hN]
  obtain ⟨A, hA⟩ : ∃ A, A = dueL n x.1 y.1 x.2 y.2 (turns + 1) := ⟨_, rfl⟩
  obtain ⟨B, hB⟩ : ∃ B, B = dueL n y.1 z.1 y.2 z.2 (turns + 1) := ⟨_, rfl⟩
  obtain ⟨C, hC⟩ : ∃ C, C = dueL n x.1 z.1 x.2 z.2 (turns + 1) := ⟨_, rfl⟩
  obtain ⟨R3, hR⟩ : ∃ R3, R3 = (fun r : List (Int × Int) => D.lst .own (r.map dPair)) := ⟨_, rfl⟩
  have st : ∀ t, Stand n (itI n x.1 x.2 t) ∧ Stand n (itI n y.1 y.2 t) ∧ Stand n (itI n z.1 z.2 t) := fun t => ⟨(itI_fits gx.sh gx.st gx.fit t).1, (itI_fits gy.sh gy.st gy.fit t).1, (itI_fits gz.sh gz.st gz.fit t).1⟩
  have pm : C.Perm (A ++ B) := by rw [hA, hB, hC]; exact due_tri (rxy.it gx gy) (ryz.it gy gz) (fun t => (st t).1) (fun t => (st t).2.1) (fun t => (st t).2.2)
  have lC : C.length ≤ 112 := by
    have := dueL_len (n := n) (W := x.1) (V := z.1) (s := x.2) (u := z.2) (turns + 1)
    have := Nat.mul_le_mul n16 (show turns + 1 ≤ 7 by omega)
    rw [hC]; omega
  have sW := sortW_due pm (by rw [hC]; exact due_ris _) (fun w hw => by
    rw [hC] at hw
    obtain ⟨t, p, _, _, rfl, _⟩ := mem_due.mp hw
    exact ⟨by show (0 : Int) ≤ t; omega, by show (0 : Int) ≤ p; omega⟩) (by omega)
  obtain ⟨ρ2, h2, ef2, w12, w13, w14, w15, w16, rfl, rfl⟩ := forGo_sat (chk := always) (g := g2_law) (body := w2_law) (items := [.tup [wsD x, wsD y], .tup [wsD y, wsD z], .tup [wsD x, wsD z]]) (ρ := [some (.lst .cst (ns.map D.int)), some (tellD n T1 bars1 stays1 (totL n T)), some W1, some (cStand.d s1), some (.loc 0), some (.int turns), some (.loc 1), y7, some (.loc H.length), some (wsD x), some (wsD y), some (wsD z), none, none, none, none, none]) (h := H ++ [.lst []])
    (fun i ρ h => ∃ w12 w13 w14 w15 w16, h = H ++ [.lst (([A, B, C].take i).map fun r => .lst .own (r.map dPair))] ∧ ρ = [some (.lst .cst (ns.map D.int)), some (tellD n T1 bars1 stays1 (totL n T)), some W1, some (cStand.d s1), some (.loc 0), some (.int turns), some (.loc 1), y7, some (.loc H.length), some (wsD x), some (wsD y), some (wsD z), w12, w13, w14, w15, w16])
    ⟨none, none, none, none, none, rfl, rfl⟩ (fun _ _ _ _ _ => rfl) (by
    rintro i d ρ h hi ⟨w12, w13, w14, w15, w16, rfl, rfl⟩
    have i3 := (List.getElem?_eq_some_iff.mp hi).1
    have : i = 0 ∨ i = 1 ∨ i = 2 := by simp at i3; omega
    rcases this with rfl | rfl | rfl
    · cases hi
      obtain ⟨z14, z15, z16, e⟩ := w2_law47 n30 gx gy rxy (k := turns) (by omega) (H := H) (rows := []) (by simp) (y0 := some (.lst .cst (ns.map D.int))) (y1 := some (tellD n T1 bars1 stays1 (totL n T))) (y2 := some W1) (y3 := some (cStand.d s1)) (y4 := some (.loc 0)) (y6 := some (.loc 1)) (y7 := y7) (y9 := some (wsD x)) (y10 := some (wsD y)) (y11 := some (wsD z)) (y12 := w12) (y13 := w13) (y14 := w14) (y15 := w15) (y16 := w16)
      rw [← hA] at e
      show Out.sat (Out.bind (g2_law (.tup [wsD x, wsD y]) _ (H ++ [.lst (([] : List (List (Int × Int))).map fun r => .lst .own (r.map dPair))])) w2_law) _
      rw [e, sat_ok]
      exact ⟨_, _, _, _, _, rfl, rfl⟩
    · cases hi
      obtain ⟨z14, z15, z16, e⟩ := w2_law47 n30 gy gz ryz (k := turns) (by omega) (H := H) (rows := [A]) (by simp) (y0 := some (.lst .cst (ns.map D.int))) (y1 := some (tellD n T1 bars1 stays1 (totL n T))) (y2 := some W1) (y3 := some (cStand.d s1)) (y4 := some (.loc 0)) (y6 := some (.loc 1)) (y7 := y7) (y9 := some (wsD x)) (y10 := some (wsD y)) (y11 := some (wsD z)) (y12 := w12) (y13 := w13) (y14 := w14) (y15 := w15) (y16 := w16)
      rw [← hB] at e
      show Out.sat (Out.bind (g2_law (.tup [wsD y, wsD z]) _ (H ++ [.lst (([A] : List (List (Int × Int))).map fun r => .lst .own (r.map dPair))])) w2_law) _
      rw [e, sat_ok]
      exact ⟨_, _, _, _, _, rfl, rfl⟩
    · cases hi
      obtain ⟨z14, z15, z16, e⟩ := w2_law47 n30 gx gz rxz (k := turns) (by omega) (H := H) (rows := [A, B]) (by simp) (y0 := some (.lst .cst (ns.map D.int))) (y1 := some (tellD n T1 bars1 stays1 (totL n T))) (y2 := some W1) (y3 := some (cStand.d s1)) (y4 := some (.loc 0)) (y6 := some (.loc 1)) (y7 := y7) (y9 := some (wsD x)) (y10 := some (wsD y)) (y11 := some (wsD z)) (y12 := w12) (y13 := w13) (y14 := w14) (y15 := w15) (y16 := w16)
      rw [← hC] at e
      show Out.sat (Out.bind (g2_law (.tup [wsD x, wsD z]) _ (H ++ [.lst (([A, B] : List (List (Int × Int))).map fun r => .lst .own (r.map dPair))])) w2_law) _
      rw [e, sat_ok]
      exact ⟨_, _, _, _, _, rfl, rfl⟩)
  have ep : m__law_people [.lst .cst (ns.map .int)] = .ok (tellD n T bars stays (totL n T)) := ep
  have km : ∀ h : PH, kR1 [.int (1 + v2)] h = .ok (irange 0 m, always) h := fun h => by rw [hm]; exact kR1_n (by omega)
  have i0 : ∀ h : PH, oIx (tellD n T bars stays (totL n T)) (.int 0) h = .ok (.int n) h := fun h => rfl
  have i1 : ∀ h : PH, oIx (tellD n T bars stays (totL n T)) (.int 1) h = .ok (.lst .own (T.map cTri.d)) h := fun h => rfl
  have i2 : ∀ h : PH, oIx (tellD n T bars stays (totL n T)) (.int 2) h = .ok (.lst .own (bars.map .int)) h := fun h => rfl
  have i3 : ∀ h : PH, oIx (tellD n T bars stays (totL n T)) (.int 3) h = .ok (.lst .own (stays.map stayD)) h := fun h => rfl
  have f1 : ∀ (h : PH) (ds : List D), fList true [.lst .own ds] h = .ok (.lst .own ds) h := fun h ds => rfl
  have s1' : ∀ h : PH, snapF h 16 (.lst .own (T.map cTri.d)) = some (.lst .bor (T.map cTri.d)) := fun hh => snapk_of cTri (k := 14) (by decide) (t := .own)
  have s2' : ∀ h : PH, snapF h 16 (.lst .own (bars.map .int)) = some (.lst .bor (bars.map .int)) := fun h => snap_lstI
  have s3' : ∀ h : PH, snapF h 16 (.lst .own (stays.map stayD)) = some (.lst .bor (stays.map stayD)) := fun h => snap_lstY
  have Rr : (H ++ [HB.lst [D.lst .own (A.map dPair), .lst .own (B.map dPair), .lst .own (C.map dPair)]])[H.length]? = some (.lst [D.lst .own (A.map dPair), .lst .own (B.map dPair), .lst .own (C.map dPair)]) := by rw [app_i0 rfl]; rfl
  obtain ⟨R, hRR⟩ : ∃ R : PH, R = H ++ [HB.lst [D.lst .own (A.map dPair), .lst .own (B.map dPair), .lst .own (C.map dPair)]] := ⟨_, rfl⟩
  have ef2 : forGo always g2_law w2_law [.tup [wsD x, wsD y], .tup [wsD y, wsD z], .tup [wsD x, wsD z]] [some (.lst .cst (ns.map D.int)), some (tellD n T1 bars1 stays1 (totL n T)), some W1, some (cStand.d s1), some (.loc 0), some (.int turns), some (.loc 1), y7, some (.loc H.length), some (wsD x), some (wsD y), some (wsD z), none, none, none, none, none] (H ++ [.lst []]) = .ok (.nx [some (.lst .cst (ns.map D.int)), some (tellD n T1 bars1 stays1 (totL n T)), some W1, some (cStand.d s1), some (.loc 0), some (.int turns), some (.loc 1), y7, some (.loc H.length), some (wsD x), some (wsD y), some (wsD z), w12, w13, w14, w15, w16]) R := by rw [hRR]; exact ef2
  rw [← hRR] at Rr
  have r0 : oIx (.loc H.length) (.int 0) R = .ok (.lst .own (A.map dPair)) R := by rw [oIx_loc, Rr]; rfl
  have r1 : oIx (.loc H.length) (.int 1) R = .ok (.lst .own (B.map dPair)) R := by rw [oIx_loc, Rr]; rfl
  have r2 : oIx (.loc H.length) (.int 2) R = .ok (.lst .own (C.map dPair)) R := by rw [oIx_loc, Rr]; rfl
  have lAB : A.length + B.length = C.length := by rw [pm.length_eq, List.length_append]
  have oa : oAdd true (.lst .own (A.map dPair)) (.lst .own (B.map dPair)) R = .ok (.lst .own ((A ++ B).map dPair)) R := by
    unfold oAdd
    simp only [getLx]
    rw [if_pos (by simp [line_eq]; omega), List.map_append]
    rfl
  have eq : oEq (.lst .own (C.map dPair)) (.lst .own (C.map dPair)) R = .ok (.bl true) R := by
    have := oEq_lst_of (cPair cInt cInt) (by decide) (h := R) (t := .own) (t' := .own) (xs := C) (ys := C)
    simp only [decide_true] at this
    exact this
  have sW := sW .own R
  rw [m_law, fnP1_s, b_law]
  have ev2 : m__law_digit [.loc 0, .int 5] [o1, .lst [.tup [cWeb.d (webT n T bars stays), cStand.d s]]] = .ok (.int v2) [o2, .lst [.tup [cWeb.d (webT n T bars stays), cStand.d s]]] := ev2
  simp only [wsD] at ef
  simp only [wsD] at ef2
  have l2 : Nat.log2 2 < 9000 := by decide
  have ixm : oIx (.loc 1) (.int ((N : Int) / 2)) H = .ok (wsD y) H := by rw [show (N : Int) / 2 = ((N / 2 : Nat) : Int) by omega]; exact ixm
  simp -implicitDefEqProofs [ep, s1_law, i0, i1, i2, i3, f1, s1', s2', s3', qw, s2_law, es, s3_law, eo, s4_law, ev, s5_law, s6_law, line_eq, ev2, km, ef, s7_law, sPar3, ix0, ixm, ixl, fl, l2, oNeg, s8_law, s9_law, wsD, ef2, s10_law, eSortW, r0, r1, r2, oa, sW, eq, -List.map_append]

end R
namespace R
open PySem PySem.Spec PyProof.Rows L2
def top (i : Nat) : Stmt := PySem.Challenge.pw_followmost_k47_whole_changes_for_ones.main.body.getD i (.Pass ⟨0, 0, 0, 0⟩)
section
variable {P : Program} {w : World} {K : PySem.W.Frag} {mg : Str → Option Value} {base : Heap}
theorem sc_is_whole : FnScope ["thing"] ["thing"] (defScope (top 8)) := ⟨rfl, rfl, rfl, by decide +kernel, rfl, by decide +kernel, by decide +kernel⟩
theorem k_is_whole (z : Blt mg) (D0 : DefHere K mg "is_whole" (top 8))  : KnP P w K mg base "is_whole" 1 ["thing"] m_is_whole :=
  known_P (N := ["thing"]) (ps := ["thing"]) (bm := b_is_whole) D0 sc_is_whole (fun _ _ _ _ _ _ us hl => match us, hl with | [_], _ => rfl) fun f E cdv A outer s H hr => by
  have c := cok_body (P := P) (w := w) (K := K) (mg := mg) (base := base) (qual := "is_whole") (scope := defScope (top 8)) (f := f) (cdv := cdv) (A := A) (outer := outer) (s := s) (H := H) (E := E) sc_is_whole.nd
  have hu := hr.units
  have hu0 := hr.units0
  have hu65 := room65 hr
  refine rss_one ?_
  refine rs_ret ?_
  refine re_and ?_ ?_
  · refine re_callB call_isi cs_isi rfl z.isinstance bb_isinstance ?_
    refine ra_cons ?_ ?_
    · exact re_var 0
    · refine ra_cons ?_ ?_
      · exact re_ty .int rfl z.int bb_int
      · exact ra_nil
  · refine re_one ?_
    refine re_not ?_
    refine re_callB call_isi cs_isi rfl z.isinstance bb_isinstance ?_
    refine ra_cons ?_ ?_
    · exact re_var 0
    · refine ra_cons ?_ ?_
      · exact re_ty .bool rfl z.bool bb_bool
      · exact ra_nil
theorem sc_is_among : FnScope ["thing", "low", "high"] ["thing", "low", "high"] (defScope (top 9)) := ⟨rfl, rfl, rfl, by decide +kernel, rfl, by decide +kernel, by decide +kernel⟩
theorem k_is_among (z : Blt mg) (D0 : DefHere K mg "is_among" (top 9)) (G_is_whole : KnP P w K mg base "is_whole" 1 ["thing"] m_is_whole) : KnP P w K mg base "is_among" 2 ["thing", "low", "high"] m_is_among :=
  known_P (N := ["thing", "low", "high"]) (ps := ["thing", "low", "high"]) (bm := b_is_among) D0 sc_is_among (fun _ _ _ _ _ _ us hl => match us, hl with | [_, _, _], _ => rfl) fun f E cdv A outer s H hr => by
  have c := cok_body (P := P) (w := w) (K := K) (mg := mg) (base := base) (qual := "is_among") (scope := defScope (top 9)) (f := f) (cdv := cdv) (A := A) (outer := outer) (s := s) (H := H) (E := E) sc_is_among.nd
  have hu := hr.units
  have hu0 := hr.units0
  have hu65 := room65 hr
  refine rss_one ?_
  refine rs_ret ?_
  refine re_and ?_ ?_
  · refine re_cP G_is_whole c (hr.mono (by decide)) rfl ?_
    refine ra_cons ?_ ?_
    · exact re_var 0
    · exact ra_nil
  · refine re_one ?_
    refine re_chain op_le op_le os_le os_le ?_ ?_ ?_
    · exact re_var 1
    · exact re_var 0
    · exact re_var 2
theorem sc_is_stay : FnScope ["thing"] ["thing"] (defScope (top 10)) := ⟨rfl, rfl, rfl, by decide +kernel, rfl, by decide +kernel, by decide +kernel⟩
theorem k_is_stay (z : Blt mg) (D0 : DefHere K mg "is_stay" (top 10)) (G_is_among : KnP P w K mg base "is_among" 2 ["thing", "low", "high"] m_is_among) : KnP P w K mg base "is_stay" 3 ["thing"] m_is_stay :=
  known_P (N := ["thing"]) (ps := ["thing"]) (bm := b_is_stay) D0 sc_is_stay (fun _ _ _ _ _ _ us hl => match us, hl with | [_], _ => rfl) fun f E cdv A outer s H hr => by
  have c := cok_body (P := P) (w := w) (K := K) (mg := mg) (base := base) (qual := "is_stay") (scope := defScope (top 10)) (f := f) (cdv := cdv) (A := A) (outer := outer) (s := s) (H := H) (E := E) sc_is_stay.nd
  have hu := hr.units
  have hu0 := hr.units0
  have hu65 := room65 hr
  refine rss_one ?_
  refine rs_ret ?_
  refine re_or ?_ ?_
  · refine re_isN ?_
    exact re_var 0
  · refine re_one ?_
    refine re_cP G_is_among c (hr.mono (by decide)) rfl ?_
    refine ra_cons ?_ ?_
    · exact re_var 0
    · refine ra_cons ?_ ?_
      · exact re_int
      · refine ra_cons ?_ ?_
        · exact re_int
        · exact ra_nil
theorem sc_look_at_tie : FnScope ["tie", "beside", "many"] ["tie", "beside"] (defScope (top 11)) := ⟨rfl, rfl, rfl, by decide +kernel, rfl, by decide +kernel, by decide +kernel⟩
theorem k_look_at_tie (z : Blt mg) (D0 : DefHere K mg "look_at_tie" (top 11)) (G_is_among : KnP P w K mg base "is_among" 2 ["thing", "low", "high"] m_is_among) (x_NoWeb : ExcK K mg "NoWeb") (i_MOST_WEIGHT : GInt mg "MOST_WEIGHT" 400) : KnM P w K mg base "look_at_tie" 3 ["tie", "beside"] m_look_at_tie :=
  known_M (N := ["tie", "beside", "many"]) (ps := ["tie", "beside"]) (bm := b_look_at_tie) D0 sc_look_at_tie (fun _ _ _ _ _ _ us hl => match us, hl with | [_, _], _ => rfl) fun f E cdv A outer s H hr => by
  have c := cok_body (P := P) (w := w) (K := K) (mg := mg) (base := base) (qual := "look_at_tie") (scope := defScope (top 11)) (f := f) (cdv := cdv) (A := A) (outer := outer) (s := s) (H := H) (E := E) sc_look_at_tie.nd
  have hu := hr.units
  have hu0 := hr.units0
  have hu65 := room65 hr
  refine rss_cons ?_ ?_
  · refine rs_set 2 c ?_
    refine re_callB call_lenA cs_len rfl z.len bb_len ?_
    refine ra_cons ?_ ?_
    · exact re_var 1
    · exact ra_nil
  · refine rss_cons ?_ ?_
    · refine rs_if ?_ ?_ ?_
      · refine rt_pw ?_
        refine rw_or ?_ ?_
        · refine rt_not ?_
          refine rt_val ?_
          refine re_callB call_isi cs_isi rfl z.isinstance bb_isinstance ?_
          refine ra_cons ?_ ?_
          · exact re_var 0
          · refine ra_cons ?_ ?_
            · exact re_ty .tup rfl z.tuple bb_tuple
            · exact ra_nil
        · refine rw_or ?_ ?_
          · refine rt_cmp (op_neD hu) os_ne ?_ ?_ (nomark _)
            · refine re_callB call_lenA cs_len rfl z.len bb_len ?_
              refine ra_cons ?_ ?_
              · exact re_var 0
              · exact ra_nil
            · exact re_int
          · refine rw_or1 ?_
            refine rt_not ?_
            refine rt_val ?_
            refine re_cP G_is_among c (hr.mono (by decide)) rfl ?_
            refine ra_cons ?_ ?_
            · refine re_ix ?_ ?_
              · exact re_var 0
              · exact re_int
            · refine ra_cons ?_ ?_
              · exact re_int
              · refine ra_cons ?_ ?_
                · exact re_gint rfl i_MOST_WEIGHT
                · exact ra_nil
      · refine rss_one ?_
        exact rs_exc c rfl x_NoWeb
      · exact rss_nil
    · refine rss_cons ?_ ?_
      · refine rs_if ?_ ?_ ?_
        · refine rt_pw ?_
          refine rw_or ?_ ?_
          · refine rt_not ?_
            refine rt_val ?_
            refine re_cP G_is_among c (hr.mono (by decide)) rfl ?_
            refine ra_cons ?_ ?_
            · refine re_ix ?_ ?_
              · exact re_var 0
              · exact re_int
            · refine ra_cons ?_ ?_
              · exact re_int
              · refine ra_cons ?_ ?_
                · refine re_bin op_sub os_sub ?_ ?_
                  · exact re_var 2
                  · exact re_int
                · exact ra_nil
          · refine rw_or1 ?_
            refine rt_not ?_
            refine rt_val ?_
            refine re_cP G_is_among c (hr.mono (by decide)) rfl ?_
            refine ra_cons ?_ ?_
            · refine re_ix ?_ ?_
              · exact re_var 0
              · exact re_int
            · refine ra_cons ?_ ?_
              · exact re_int
              · refine ra_cons ?_ ?_
                · refine re_bin op_sub os_sub ?_ ?_
                  · exact re_var 2
                  · exact re_int
                · exact ra_nil
        · refine rss_one ?_
          exact rs_exc c rfl x_NoWeb
        · exact rss_nil
      · refine rss_one ?_
        refine rs_if ?_ ?_ ?_
        · refine rt_pw ?_
          refine rw_or ?_ ?_
          · refine rt_cmp (op_eqD hu) os_eq ?_ ?_ (nomark _)
            · refine re_ix ?_ ?_
              · exact re_var 0
              · exact re_int
            · refine re_ix ?_ ?_
              · exact re_var 0
              · exact re_int
          · refine rw_or1 ?_
            refine rt_din (Nat.lt_of_le_of_lt (Nat.add_le_add_left (by decide : 1 ≤ 64) _) hu) ?_ ?_
            · refine re_ix ?_ ?_
              · exact re_var 0
              · exact re_int
            · refine re_ix ?_ ?_
              · exact re_var 1
              · refine re_ix ?_ ?_
                · exact re_var 0
                · exact re_int
        · refine rss_one ?_
          exact rs_exc c rfl x_NoWeb
        · exact rss_nil
theorem sc_ties_of : FnScope ["many", "ties", "beside", "tie", "person", "some", "other"] ["many", "ties"] (defScope (top 12)) := ⟨rfl, rfl, rfl, by decide +kernel, rfl, by decide +kernel, by decide +kernel⟩
theorem k_ties_of (z : Blt mg) (D0 : DefHere K mg "ties_of" (top 12)) (G_is_among : KnP P w K mg base "is_among" 2 ["thing", "low", "high"] m_is_among) (G_look_at_tie : KnM P w K mg base "look_at_tie" 3 ["tie", "beside"] m_look_at_tie) (x_NoWeb : ExcK K mg "NoWeb") (i_MOST_PEOPLE : GInt mg "MOST_PEOPLE" 30) : KnP P w K mg base "ties_of" 4 ["many", "ties"] m_ties_of :=
  known_P (N := ["many", "ties", "beside", "tie", "person", "some", "other"]) (ps := ["many", "ties"]) (bm := b_ties_of) D0 sc_ties_of (fun _ _ _ _ _ _ us hl => match us, hl with | [_, _], _ => rfl) fun f E cdv A outer s H hr => by
  have c := cok_body (P := P) (w := w) (K := K) (mg := mg) (base := base) (qual := "ties_of") (scope := defScope (top 12)) (f := f) (cdv := cdv) (A := A) (outer := outer) (s := s) (H := H) (E := E) sc_ties_of.nd
  have hu := hr.units
  have hu0 := hr.units0
  have hu65 := room65 hr
  refine rss_cons ?_ ?_
  · refine rs_if ?_ ?_ ?_
    · refine rt_pw ?_
      refine rw_or ?_ ?_
      · refine rt_not ?_
        refine rt_val ?_
        refine re_cP G_is_among c (hr.mono (by decide)) rfl ?_
        refine ra_cons ?_ ?_
        · exact re_var 0
        · refine ra_cons ?_ ?_
          · exact re_int
          · refine ra_cons ?_ ?_
            · exact re_gint rfl i_MOST_PEOPLE
            · exact ra_nil
      · refine rw_or1 ?_
        refine rt_not ?_
        refine rt_val ?_
        refine re_callB call_isi cs_isi rfl z.isinstance bb_isinstance ?_
        refine ra_cons ?_ ?_
        · exact re_var 1
        · refine ra_cons ?_ ?_
          · exact re_ty .lst rfl z.list bb_list
          · exact ra_nil
    · refine rss_one ?_
      exact rs_exc c rfl x_NoWeb
    · exact rss_nil
  · refine rss_cons ?_ ?_
    · refine rs_setLc false 2 (own := [("person", 4)]) c ?_ (by first | exact blkOk_by (N := ["many", "ties", "beside", "tie", "person", "some", "other"]) (sc := defScope (top 12)) (by decide +kernel) | exact blkOk_by (by kernel_rfl)) ?_ ?_ ?_
      · refine ri_range1 rfl z.range ?_
        refine ra_cons ?_ ?_
        · exact re_var 0
        · exact ra_nil
      · intro _ _ _ _ _
        exact rg_name 4 (cok_blk c)
      · intro _ _ _ _ _
        exact rts_nil
      · intro _ _ _ _ _
        exact re_dct
    · refine rss_cons ?_ ?_
      · refine rs_for (vs := [3]) c ?_ ?_ ?_
        · refine ri_seq ?_
          exact re_var 1
        · exact rg_name 3 c
        · refine rss_cons ?_ ?_
          · refine rs_expr ?_
            refine re_cM G_look_at_tie c (hr.mono (by decide)) rfl ?_
            refine ra_cons ?_ ?_
            · exact re_var 3
            · refine ra_cons ?_ ?_
              · exact re_var 2
              · exact ra_nil
          · refine rss_cons ?_ ?_
            · refine rs_dput (Nat.lt_of_le_of_lt (Nat.add_le_add_left (by decide : 1 ≤ 64) _) hu) ?_ ?_ ?_
              · refine re_ix ?_ ?_
                · exact re_var 2
                · refine re_ix ?_ ?_
                  · exact re_var 3
                  · exact re_int
              · refine re_ix ?_ ?_
                · exact re_var 3
                · exact re_int
              · refine re_ix ?_ ?_
                · exact re_var 3
                · exact re_int
            · refine rss_one ?_
              refine rs_dput (Nat.lt_of_le_of_lt (Nat.add_le_add_left (by decide : 1 ≤ 64) _) hu) ?_ ?_ ?_
              · refine re_ix ?_ ?_
                · exact re_var 2
                · refine re_ix ?_ ?_
                  · exact re_var 3
                  · exact re_int
              · refine re_ix ?_ ?_
                · exact re_var 3
                · exact re_int
              · refine re_ix ?_ ?_
                · exact re_var 3
                · exact re_int
      · refine rss_one ?_
        refine rs_ret ?_
        refine re_callTy call_tuple_ofZ cs_tuple rfl z.tuple bb_tuple ?_
        refine ra_cons ?_ ?_
        · refine re_lc true (own := [("some", 5)]) c ?_ (by first | exact blkOk_by (N := ["many", "ties", "beside", "tie", "person", "some", "other"]) (sc := defScope (top 12)) (by decide +kernel) | exact blkOk_by (by kernel_rfl)) ?_ ?_ ?_
          · refine ri_seq ?_
            exact re_var 2
          · intro _ _ _ _ _
            exact rg_name 5 (cok_blk c)
          · intro _ _ _ _ _
            exact rts_nil
          · intro _ _ _ _ _
            refine re_callTy call_tuple_ofZ cs_tuple rfl z.tuple bb_tuple ?_
            refine ra_cons ?_ ?_
            · refine re_lc true (own := [("other", 6)]) (cok_blk c) ?_ (by first | exact blkOk_by (N := ["many", "ties", "beside", "tie", "person", "some", "other"]) (sc := defScope (top 12)) (by decide +kernel) | exact blkOk_by (by kernel_rfl)) ?_ ?_ ?_
              · refine ri_seq ?_
                refine re_callB (call_sortD (cok_blk c).calm) cs_sortD rfl z.sorted bb_sorted ?_
                refine ra_cons ?_ ?_
                · exact re_var 5
                · exact ra_nil
              · intro _ _ _ _ _
                exact rg_name 6 (cok_blk (cok_blk c))
              · intro _ _ _ _ _
                exact rts_nil
              · intro _ _ _ _ _
                refine re_tup ?_
                refine ra_cons ?_ ?_
                · exact re_var 6
                · refine ra_cons ?_ ?_
                  · refine re_dget (Nat.lt_of_le_of_lt (Nat.add_le_add_left (by decide : 1 ≤ 64) _) hu) ?_ ?_ (fun _ _ => rfl)
                    · exact re_var 5
                    · exact re_var 6
                  · exact ra_nil
            · exact ra_nil
        · exact ra_nil
theorem sc_told_of : FnScope ["some", "many", "is_one", "thing"] ["some", "many", "is_one"] (defScope (top 13)) := ⟨rfl, rfl, rfl, by decide +kernel, rfl, by decide +kernel, by decide +kernel⟩
theorem k_told_of (z : Blt mg) (D0 : DefHere K mg "told_of" (top 13)) (G_is_whole : KnP P w K mg base "is_whole" 1 ["thing"] m_is_whole) (G_is_stay : KnP P w K mg base "is_stay" 3 ["thing"] m_is_stay) (x_NoWeb : ExcK K mg "NoWeb") : KnP P w K mg base "told_of" 4 ["some", "many", "is_one"] m_told_of :=
  known_P (N := ["some", "many", "is_one", "thing"]) (ps := ["some", "many", "is_one"]) (bm := b_told_of) D0 sc_told_of (fun _ _ _ _ _ _ us hl => match us, hl with | [_, _, _], _ => rfl) fun f E cdv A outer s H hr => by
  have c := cok_body (P := P) (w := w) (K := K) (mg := mg) (base := base) (qual := "told_of") (scope := defScope (top 13)) (f := f) (cdv := cdv) (A := A) (outer := outer) (s := s) (H := H) (E := E) sc_told_of.nd
  have hu := hr.units
  have hu0 := hr.units0
  have hu65 := room65 hr
  refine rss_cons ?_ ?_
  · refine rs_if ?_ ?_ ?_
    · refine rt_pw ?_
      refine rw_or ?_ ?_
      · refine rt_not ?_
        refine rt_val ?_
        refine re_callB call_isi cs_isi rfl z.isinstance bb_isinstance ?_
        refine ra_cons ?_ ?_
        · exact re_var 0
        · refine ra_cons ?_ ?_
          · exact re_ty .lst rfl z.list bb_list
          · exact ra_nil
      · refine rw_or1 ?_
        refine rt_cmp (op_neD hu) os_ne ?_ ?_ (nomark _)
        · refine re_callB call_lenA cs_len rfl z.len bb_len ?_
          refine ra_cons ?_ ?_
          · exact re_var 0
          · exact ra_nil
        · exact re_var 1
    · refine rss_one ?_
      exact rs_exc c rfl x_NoWeb
    · exact rss_nil
  · refine rss_cons ?_ ?_
    · refine rs_for (vs := [3]) c ?_ ?_ ?_
      · refine ri_seq ?_
        exact re_var 0
      · exact rg_name 3 c
      · refine rss_one ?_
        refine rs_if ?_ ?_ ?_
        · refine rt_not ?_
          refine rt_val ?_
          refine re_callL (fun y m e => by unfold c_told_of_is_one at e; split at e; (rename_i z; subst z; cases e; exact ⟨_, _, G_is_whole, hr.mono (by decide)⟩); split at e; (rename_i z; subst z; cases e; exact ⟨_, _, G_is_stay, hr.mono (by decide)⟩); cases e) c rfl (by first | exact Or.inl rfl | exact Or.inr (Or.inl rfl) | exact Or.inr (Or.inr rfl)) ?_
          refine ra_cons ?_ ?_
          · exact re_var 3
          · exact ra_nil
        · refine rss_one ?_
          exact rs_exc c rfl x_NoWeb
        · exact rss_nil
    · refine rss_one ?_
      refine rs_ret ?_
      refine re_callTy call_tuple_ofZ cs_tuple rfl z.tuple bb_tuple ?_
      refine ra_cons ?_ ?_
      · exact re_var 0
      · exact ra_nil
theorem sc_sum_of : FnScope ["some", "other", "weight"] ["some"] (defScope (top 14)) := ⟨rfl, rfl, rfl, by decide +kernel, rfl, by decide +kernel, by decide +kernel⟩
theorem k_sum_of (z : Blt mg) (D0 : DefHere K mg "sum_of" (top 14))  : KnP P w K mg base "sum_of" 1 ["some"] m_sum_of :=
  known_P (N := ["some", "other", "weight"]) (ps := ["some"]) (bm := b_sum_of) D0 sc_sum_of (fun _ _ _ _ _ _ us hl => match us, hl with | [_], _ => rfl) fun f E cdv A outer s H hr => by
  have c := cok_body (P := P) (w := w) (K := K) (mg := mg) (base := base) (qual := "sum_of") (scope := defScope (top 14)) (f := f) (cdv := cdv) (A := A) (outer := outer) (s := s) (H := H) (E := E) sc_sum_of.nd
  have hu := hr.units
  have hu0 := hr.units0
  have hu65 := room65 hr
  refine rss_one ?_
  refine rs_ret ?_
  refine re_callB (cr_sumA c.calm) cs_sum rfl z.sum bb_sum ?_
  refine ra_cons ?_ ?_
  · refine re_lc true (own := [("other", 1), ("weight", 2)]) c ?_ (by first | exact blkOk_by (N := ["some", "other", "weight"]) (sc := defScope (top 14)) (by decide +kernel) | exact blkOk_by (by kernel_rfl)) ?_ ?_ ?_
    · refine ri_seq ?_
      exact re_var 0
    · intro _ _ _ _ _
      refine rg_tup 2 (cok_blk c) ?_
      refine rgs_cons ?_ ?_
      · exact rg_name 1 (cok_blk c)
      · refine rgs_cons ?_ ?_
        · exact rg_name 2 (cok_blk c)
        · exact rgs_nil
    · intro _ _ _ _ _
      exact rts_nil
    · intro _ _ _ _ _
      exact re_var 2
  · exact ra_nil
theorem sc_web_of : FnScope ["many", "ties", "bars", "stays", "found", "high", "kept", "some"] ["many", "ties", "bars", "stays"] (defScope (top 15)) := ⟨rfl, rfl, rfl, by decide +kernel, rfl, by decide +kernel, by decide +kernel⟩
theorem k_web_of (z : Blt mg) (D0 : DefHere K mg "web_of" (top 15)) (G_ties_of : KnP P w K mg base "ties_of" 4 ["many", "ties"] m_ties_of) (G_sum_of : KnP P w K mg base "sum_of" 1 ["some"] m_sum_of) (G_is_whole : KnP P w K mg base "is_whole" 1 ["thing"] m_is_whole) (G_told_of : KnP P w K mg base "told_of" 4 ["some", "many", "is_one"] m_told_of) (G_is_stay : KnP P w K mg base "is_stay" 3 ["thing"] m_is_stay) : KnP P w K mg base "web_of" 5 ["many", "ties", "bars", "stays"] m_web_of :=
  known_P (N := ["many", "ties", "bars", "stays", "found", "high", "kept", "some"]) (ps := ["many", "ties", "bars", "stays"]) (bm := b_web_of) D0 sc_web_of (fun _ _ _ _ _ _ us hl => match us, hl with | [_, _, _, _], _ => rfl) fun f E cdv A outer s H hr => by
  have c := cok_body (P := P) (w := w) (K := K) (mg := mg) (base := base) (qual := "web_of") (scope := defScope (top 15)) (f := f) (cdv := cdv) (A := A) (outer := outer) (s := s) (H := H) (E := E) sc_web_of.nd
  have hu := hr.units
  have hu0 := hr.units0
  have hu65 := room65 hr
  refine rss_cons ?_ ?_
  · refine rs_set 4 c ?_
    refine re_cP G_ties_of c (hr.mono (by decide)) rfl ?_
    refine ra_cons ?_ ?_
    · exact re_var 0
    · refine ra_cons ?_ ?_
      · exact re_var 1
      · exact ra_nil
  · refine rss_cons ?_ ?_
    · refine rs_set 5 c ?_
      refine re_callTy call_tuple_ofZ cs_tuple rfl z.tuple bb_tuple ?_
      refine ra_cons ?_ ?_
      · refine re_lc true (own := [("some", 7)]) c ?_ (by first | exact blkOk_by (N := ["many", "ties", "bars", "stays", "found", "high", "kept", "some"]) (sc := defScope (top 15)) (by decide +kernel) | exact blkOk_by (by kernel_rfl)) ?_ ?_ ?_
        · refine ri_seq ?_
          exact re_var 4
        · intro _ _ _ _ _
          exact rg_name 7 (cok_blk c)
        · intro _ _ _ _ _
          exact rts_nil
        · intro _ _ _ _ _
          refine re_cP G_sum_of (cok_blk c) (hr.mono (by decide)) rfl ?_
          refine ra_cons ?_ ?_
          · exact re_var 7
          · exact ra_nil
      · exact ra_nil
    · refine rss_cons ?_ ?_
      · refine rs_if ?_ ?_ ?_
        · refine rt_notN ?_
          exact re_var 2
        · refine rss_one ?_
          refine rs_set 5 c ?_
          refine re_cP G_told_of c (hr.mono (by decide)) rfl ?_
          refine ra_cons ?_ ?_
          · exact re_var 2
          · refine ra_cons ?_ ?_
            · exact re_var 0
            · refine ra_cons ?_ ?_
              · exact re_glP G_is_whole rfl
              · exact ra_nil
        · exact rss_nil
      · refine rss_cons ?_ ?_
        · refine rs_set 6 c ?_
          refine re_bin op_mulA os_mul ?_ ?_
          · refine re_tup ?_
            refine ra_cons ?_ ?_
            · exact re_non
            · exact ra_nil
          · exact re_var 0
        · refine rss_cons ?_ ?_
          · refine rs_if ?_ ?_ ?_
            · refine rt_notN ?_
              exact re_var 3
            · refine rss_one ?_
              refine rs_set 6 c ?_
              refine re_cP G_told_of c (hr.mono (by decide)) rfl ?_
              refine ra_cons ?_ ?_
              · exact re_var 3
              · refine ra_cons ?_ ?_
                · exact re_var 0
                · refine ra_cons ?_ ?_
                  · exact re_glP G_is_stay rfl
                  · exact ra_nil
            · exact rss_nil
          · refine rss_one ?_
            refine rs_ret ?_
            refine re_tup ?_
            refine ra_cons ?_ ?_
            · exact re_var 4
            · refine ra_cons ?_ ?_
              · exact re_var 5
              · refine ra_cons ?_ ?_
                · exact re_var 6
                · exact ra_nil
theorem sc_weights_of : FnScope ["web", "person"] ["web", "person"] (defScope (top 16)) := ⟨rfl, rfl, rfl, by decide +kernel, rfl, by decide +kernel, by decide +kernel⟩
theorem k_weights_of (z : Blt mg) (D0 : DefHere K mg "weights_of" (top 16)) (G_sum_of : KnP P w K mg base "sum_of" 1 ["some"] m_sum_of) : KnP P w K mg base "weights_of" 2 ["web", "person"] m_weights_of :=
  known_P (N := ["web", "person"]) (ps := ["web", "person"]) (bm := b_weights_of) D0 sc_weights_of (fun _ _ _ _ _ _ us hl => match us, hl with | [_, _], _ => rfl) fun f E cdv A outer s H hr => by
  have c := cok_body (P := P) (w := w) (K := K) (mg := mg) (base := base) (qual := "weights_of") (scope := defScope (top 16)) (f := f) (cdv := cdv) (A := A) (outer := outer) (s := s) (H := H) (E := E) sc_weights_of.nd
  have hu := hr.units
  have hu0 := hr.units0
  have hu65 := room65 hr
  refine rss_one ?_
  refine rs_ret ?_
  refine re_cP G_sum_of c (hr.mono (by decide)) rfl ?_
  refine ra_cons ?_ ?_
  · refine re_ix ?_ ?_
    · refine re_ix ?_ ?_
      · exact re_var 0
      · exact re_int
    · exact re_var 1
  · exact ra_nil
theorem sc_fits : FnScope ["web", "thing", "held", "stay"] ["web", "thing"] (defScope (top 18)) := ⟨rfl, rfl, rfl, by decide +kernel, rfl, by decide +kernel, by decide +kernel⟩
theorem k_fits (z : Blt mg) (D0 : DefHere K mg "fits" (top 18)) (G_is_among : KnP P w K mg base "is_among" 2 ["thing", "low", "high"] m_is_among) : KnP P w K mg base "fits" 3 ["web", "thing"] m_fits :=
  known_P (N := ["web", "thing", "held", "stay"]) (ps := ["web", "thing"]) (bm := b_fits) D0 sc_fits (fun _ _ _ _ _ _ us hl => match us, hl with | [_, _], _ => rfl) fun f E cdv A outer s H hr => by
  have c := cok_body (P := P) (w := w) (K := K) (mg := mg) (base := base) (qual := "fits") (scope := defScope (top 18)) (f := f) (cdv := cdv) (A := A) (outer := outer) (s := s) (H := H) (E := E) sc_fits.nd
  have hu := hr.units
  have hu0 := hr.units0
  have hu65 := room65 hr
  refine rss_cons ?_ ?_
  · refine rs_if ?_ ?_ ?_
    · refine rt_pw ?_
      refine rw_or ?_ ?_
      · refine rt_not ?_
        refine rt_val ?_
        refine re_callB call_isi cs_isi rfl z.isinstance bb_isinstance ?_
        refine ra_cons ?_ ?_
        · exact re_var 1
        · refine ra_cons ?_ ?_
          · exact re_ty .tup rfl z.tuple bb_tuple
          · exact ra_nil
      · refine rw_or1 ?_
        refine rt_cmp (op_neD hu) os_ne ?_ ?_ (nomark _)
        · refine re_callB call_lenA cs_len rfl z.len bb_len ?_
          refine ra_cons ?_ ?_
          · exact re_var 1
          · exact ra_nil
        · refine re_callB call_lenA cs_len rfl z.len bb_len ?_
          refine ra_cons ?_ ?_
          · refine re_ix ?_ ?_
            · exact re_var 0
            · exact re_int
          · exact ra_nil
    · refine rss_one ?_
      refine rs_ret ?_
      exact re_bl
    · exact rss_nil
  · refine rss_cons ?_ ?_
    · refine rs_for (vs := [2, 3]) c ?_ ?_ ?_
      · refine ri_zip rfl z.zip ?_
        refine ra_cons ?_ ?_
        · exact re_var 1
        · refine ra_cons ?_ ?_
          · refine re_ix ?_ ?_
            · exact re_var 0
            · exact re_int
          · exact ra_nil
      · refine rg_tup 2 c ?_
        refine rgs_cons ?_ ?_
        · exact rg_name 2 c
        · refine rgs_cons ?_ ?_
          · exact rg_name 3 c
          · exact rgs_nil
      · refine rss_one ?_
        refine rs_if ?_ ?_ ?_
        · refine rt_pw ?_
          refine rw_or ?_ ?_
          · refine rt_not ?_
            refine rt_val ?_
            refine re_cP G_is_among c (hr.mono (by decide)) rfl ?_
            refine ra_cons ?_ ?_
            · exact re_var 2
            · refine ra_cons ?_ ?_
              · exact re_int
              · refine ra_cons ?_ ?_
                · exact re_int
                · exact ra_nil
          · refine rw_or1 ?_
            refine rt_pw ?_
            refine rw_and ?_ ?_
            · refine rt_notN ?_
              exact re_var 3
            · refine rw_and1 ?_
              refine rt_cmp (op_neD hu) os_ne ?_ ?_ (nomark _)
              · exact re_var 2
              · exact re_var 3
        · refine rss_one ?_
          refine rs_ret ?_
          exact re_bl
        · exact rss_nil
    · refine rss_one ?_
      refine rs_ret ?_
      exact re_bl
theorem sc_ask_stand : FnScope ["web", "thing"] ["web", "thing"] (defScope (top 19)) := ⟨rfl, rfl, rfl, by decide +kernel, rfl, by decide +kernel, by decide +kernel⟩
theorem k_ask_stand (z : Blt mg) (D0 : DefHere K mg "ask_stand" (top 19)) (G_fits : KnP P w K mg base "fits" 3 ["web", "thing"] m_fits) (x_NoStand : ExcK K mg "NoStand") : KnP P w K mg base "ask_stand" 4 ["web", "thing"] m_ask_stand :=
  known_P (N := ["web", "thing"]) (ps := ["web", "thing"]) (bm := b_ask_stand) D0 sc_ask_stand (fun _ _ _ _ _ _ us hl => match us, hl with | [_, _], _ => rfl) fun f E cdv A outer s H hr => by
  have c := cok_body (P := P) (w := w) (K := K) (mg := mg) (base := base) (qual := "ask_stand") (scope := defScope (top 19)) (f := f) (cdv := cdv) (A := A) (outer := outer) (s := s) (H := H) (E := E) sc_ask_stand.nd
  have hu := hr.units
  have hu0 := hr.units0
  have hu65 := room65 hr
  refine rss_one ?_
  refine rs_if ?_ ?_ ?_
  · refine rt_not ?_
    refine rt_val ?_
    refine re_cP G_fits c (hr.mono (by decide)) rfl ?_
    refine ra_cons ?_ ?_
    · exact re_var 0
    · refine ra_cons ?_ ?_
      · exact re_var 1
      · exact ra_nil
  · refine rss_one ?_
    exact rs_exc c rfl x_NoStand
  · exact rss_nil
theorem sc_pulled : FnScope ["web", "stand", "person", "other", "weight"] ["web", "stand", "person"] (defScope (top 20)) := ⟨rfl, rfl, rfl, by decide +kernel, rfl, by decide +kernel, by decide +kernel⟩
theorem k_pulled (z : Blt mg) (D0 : DefHere K mg "pulled" (top 20))  : KnP P w K mg base "pulled" 1 ["web", "stand", "person"] m_pulled :=
  known_P (N := ["web", "stand", "person", "other", "weight"]) (ps := ["web", "stand", "person"]) (bm := b_pulled) D0 sc_pulled (fun _ _ _ _ _ _ us hl => match us, hl with | [_, _, _], _ => rfl) fun f E cdv A outer s H hr => by
  have c := cok_body (P := P) (w := w) (K := K) (mg := mg) (base := base) (qual := "pulled") (scope := defScope (top 20)) (f := f) (cdv := cdv) (A := A) (outer := outer) (s := s) (H := H) (E := E) sc_pulled.nd
  have hu := hr.units
  have hu0 := hr.units0
  have hu65 := room65 hr
  refine rss_one ?_
  refine rs_ret ?_
  refine re_bin op_mulA os_mul ?_ ?_
  · exact re_int
  · refine re_callB (cr_sumA c.calm) cs_sum rfl z.sum bb_sum ?_
    refine ra_cons ?_ ?_
    · refine re_lc true (own := [("other", 3), ("weight", 4)]) c ?_ (by first | exact blkOk_by (N := ["web", "stand", "person", "other", "weight"]) (sc := defScope (top 20)) (by decide +kernel) | exact blkOk_by (by kernel_rfl)) ?_ ?_ ?_
      · refine ri_seq ?_
        refine re_ix ?_ ?_
        · refine re_ix ?_ ?_
          · exact re_var 0
          · exact re_int
        · exact re_var 2
      · intro _ _ _ _ _
        refine rg_tup 2 (cok_blk c) ?_
        refine rgs_cons ?_ ?_
        · exact rg_name 3 (cok_blk c)
        · refine rgs_cons ?_ ?_
          · exact rg_name 4 (cok_blk c)
          · exact rgs_nil
      · intro _ _ _ _ _
        refine rts_one ?_
        refine rt_cmp (op_eqD hu) os_eq ?_ ?_ (nomark _)
        · refine re_ix ?_ ?_
          · exact re_var 1
          · exact re_var 3
        · exact re_int
      · intro _ _ _ _ _
        exact re_var 4
    · exact ra_nil
theorem sc_turned : FnScope ["web", "stand", "person", "found"] ["web", "stand", "person"] (defScope (top 21)) := ⟨rfl, rfl, rfl, by decide +kernel, rfl, by decide +kernel, by decide +kernel⟩
theorem k_turned (z : Blt mg) (D0 : DefHere K mg "turned" (top 21)) (G_pulled : KnP P w K mg base "pulled" 1 ["web", "stand", "person"] m_pulled) : KnP P w K mg base "turned" 2 ["web", "stand", "person"] m_turned :=
  known_P (N := ["web", "stand", "person", "found"]) (ps := ["web", "stand", "person"]) (bm := b_turned) D0 sc_turned (fun _ _ _ _ _ _ us hl => match us, hl with | [_, _, _], _ => rfl) fun f E cdv A outer s H hr => by
  have c := cok_body (P := P) (w := w) (K := K) (mg := mg) (base := base) (qual := "turned") (scope := defScope (top 21)) (f := f) (cdv := cdv) (A := A) (outer := outer) (s := s) (H := H) (E := E) sc_turned.nd
  have hu := hr.units
  have hu0 := hr.units0
  have hu65 := room65 hr
  refine rss_cons ?_ ?_
  · refine rs_if ?_ ?_ ?_
    · refine rt_notN ?_
      refine re_ix ?_ ?_
      · refine re_ix ?_ ?_
        · exact re_var 0
        · exact re_int
      · exact re_var 2
    · refine rss_one ?_
      refine rs_ret ?_
      refine re_ix ?_ ?_
      · refine re_ix ?_ ?_
        · exact re_var 0
        · exact re_int
      · exact re_var 2
    · exact rss_nil
  · refine rss_cons ?_ ?_
    · refine rs_set 3 c ?_
      refine re_cP G_pulled c (hr.mono (by decide)) rfl ?_
      refine ra_cons ?_ ?_
      · exact re_var 0
      · refine ra_cons ?_ ?_
        · exact re_var 1
        · refine ra_cons ?_ ?_
          · exact re_var 2
          · exact ra_nil
    · refine rss_cons ?_ ?_
      · refine rs_if ?_ ?_ ?_
        · refine rt_cmp (op_eqD hu) os_eq ?_ ?_ (nomark _)
          · exact re_var 3
          · refine re_ix ?_ ?_
            · refine re_ix ?_ ?_
              · exact re_var 0
              · exact re_int
            · exact re_var 2
        · refine rss_one ?_
          refine rs_ret ?_
          refine re_ix ?_ ?_
          · exact re_var 1
          · exact re_var 2
        · exact rss_nil
      · refine rss_one ?_
        refine rs_ret ?_
        refine re_callTy call_int1 cs_int rfl z.int bb_int ?_
        refine ra_cons ?_ ?_
        · refine re_cmp op_gt os_gt ?_ ?_ (nomark _)
          · exact re_var 3
          · refine re_ix ?_ ?_
            · refine re_ix ?_ ?_
              · exact re_var 0
              · exact re_int
            · exact re_var 2
        · exact ra_nil
theorem sc_turn : FnScope ["web", "stand", "person"] ["web", "stand"] (defScope (top 22)) := ⟨rfl, rfl, rfl, by decide +kernel, rfl, by decide +kernel, by decide +kernel⟩
theorem k_turn (z : Blt mg) (D0 : DefHere K mg "turn" (top 22)) (G_ask_stand : KnP P w K mg base "ask_stand" 4 ["web", "thing"] m_ask_stand) (G_turned : KnP P w K mg base "turned" 2 ["web", "stand", "person"] m_turned) : KnP P w K mg base "turn" 5 ["web", "stand"] m_turn :=
  known_P (N := ["web", "stand", "person"]) (ps := ["web", "stand"]) (bm := b_turn) D0 sc_turn (fun _ _ _ _ _ _ us hl => match us, hl with | [_, _], _ => rfl) fun f E cdv A outer s H hr => by
  have c := cok_body (P := P) (w := w) (K := K) (mg := mg) (base := base) (qual := "turn") (scope := defScope (top 22)) (f := f) (cdv := cdv) (A := A) (outer := outer) (s := s) (H := H) (E := E) sc_turn.nd
  have hu := hr.units
  have hu0 := hr.units0
  have hu65 := room65 hr
  refine rss_cons ?_ ?_
  · refine rs_expr ?_
    refine re_cP G_ask_stand c (hr.mono (by decide)) rfl ?_
    refine ra_cons ?_ ?_
    · exact re_var 0
    · refine ra_cons ?_ ?_
      · exact re_var 1
      · exact ra_nil
  · refine rss_one ?_
    refine rs_ret ?_
    refine re_callTy call_tuple_ofZ cs_tuple rfl z.tuple bb_tuple ?_
    refine ra_cons ?_ ?_
    · refine re_lc true (own := [("person", 2)]) c ?_ (by first | exact blkOk_by (N := ["web", "stand", "person"]) (sc := defScope (top 22)) (by decide +kernel) | exact blkOk_by (by kernel_rfl)) ?_ ?_ ?_
      · refine ri_range1 rfl z.range ?_
        refine ra_cons ?_ ?_
        · refine re_callB call_lenA cs_len rfl z.len bb_len ?_
          refine ra_cons ?_ ?_
          · exact re_var 1
          · exact ra_nil
        · exact ra_nil
      · intro _ _ _ _ _
        exact rg_name 2 (cok_blk c)
      · intro _ _ _ _ _
        exact rts_nil
      · intro _ _ _ _ _
        refine re_cP G_turned (cok_blk c) (hr.mono (by decide)) rfl ?_
        refine ra_cons ?_ ?_
        · exact re_var 0
        · refine ra_cons ?_ ?_
          · exact re_var 1
          · refine ra_cons ?_ ?_
            · exact re_var 2
            · exact ra_nil
    · exact ra_nil
theorem sc_history : FnScope ["web", "stand", "turns", "found", "k"] ["web", "stand", "turns"] (defScope (top 25)) := ⟨rfl, rfl, rfl, by decide +kernel, rfl, by decide +kernel, by decide +kernel⟩
theorem k_history (z : Blt mg) (D0 : DefHere K mg "history" (top 25)) (G_ask_stand : KnP P w K mg base "ask_stand" 4 ["web", "thing"] m_ask_stand) (G_turn : KnP P w K mg base "turn" 5 ["web", "stand"] m_turn) (x_TooLong : ExcK K mg "TooLong") (i_MOST_TURNS : GInt mg "MOST_TURNS" 400) : KnP P w K mg base "history" 6 ["web", "stand", "turns"] m_history :=
  known_P (N := ["web", "stand", "turns", "found", "k"]) (ps := ["web", "stand", "turns"]) (bm := b_history) D0 sc_history (fun _ _ _ _ _ _ us hl => match us, hl with | [_, _, _], _ => rfl) fun f E cdv A outer s H hr => by
  have c := cok_body (P := P) (w := w) (K := K) (mg := mg) (base := base) (qual := "history") (scope := defScope (top 25)) (f := f) (cdv := cdv) (A := A) (outer := outer) (s := s) (H := H) (E := E) sc_history.nd
  have hu := hr.units
  have hu0 := hr.units0
  have hu65 := room65 hr
  refine rss_cons ?_ ?_
  · refine rs_expr ?_
    refine re_cP G_ask_stand c (hr.mono (by decide)) rfl ?_
    refine ra_cons ?_ ?_
    · exact re_var 0
    · refine ra_cons ?_ ?_
      · exact re_var 1
      · exact ra_nil
  · refine rss_cons ?_ ?_
    · refine rs_if ?_ ?_ ?_
      · refine rt_cmp op_gt os_gt ?_ ?_ (nomark _)
        · exact re_var 2
        · exact re_gint rfl i_MOST_TURNS
      · refine rss_one ?_
        exact rs_exc c rfl x_TooLong
      · exact rss_nil
    · refine rss_cons ?_ ?_
      · refine rs_set 3 c ?_
        refine re_lst false ?_
        refine ra_cons ?_ ?_
        · exact re_var 1
        · exact ra_nil
      · refine rss_cons ?_ ?_
        · refine rs_for (vs := [4]) c ?_ ?_ ?_
          · refine ri_range1 rfl z.range ?_
            refine ra_cons ?_ ?_
            · exact re_var 2
            · exact ra_nil
          · exact rg_name 4 c
          · refine rss_one ?_
            refine rs_expr ?_
            refine re_bm .lst PySem.F.plainAttrs_list PySem.F.slot_list_append PySem.F.type_list_append mt_append ms_append ?_ ?_
            · exact re_var 3
            · refine ra_cons ?_ ?_
              · refine re_cP G_turn c (hr.mono (by decide)) rfl ?_
                refine ra_cons ?_ ?_
                · exact re_var 0
                · refine ra_cons ?_ ?_
                  · refine re_ix ?_ ?_
                    · exact re_var 3
                    · refine re_un un_neg us_neg ?_
                      exact re_int
                  · exact ra_nil
              · exact ra_nil
        · refine rss_one ?_
          refine rs_ret ?_
          exact re_var 3
theorem sc_ask_person : FnScope ["web", "person"] ["web", "person"] (defScope (top 27)) := ⟨rfl, rfl, rfl, by decide +kernel, rfl, by decide +kernel, by decide +kernel⟩
theorem k_ask_person (z : Blt mg) (D0 : DefHere K mg "ask_person" (top 27)) (G_is_among : KnP P w K mg base "is_among" 2 ["thing", "low", "high"] m_is_among) (x_NoWeb : ExcK K mg "NoWeb") : KnP P w K mg base "ask_person" 3 ["web", "person"] m_ask_person :=
  known_P (N := ["web", "person"]) (ps := ["web", "person"]) (bm := b_ask_person) D0 sc_ask_person (fun _ _ _ _ _ _ us hl => match us, hl with | [_, _], _ => rfl) fun f E cdv A outer s H hr => by
  have c := cok_body (P := P) (w := w) (K := K) (mg := mg) (base := base) (qual := "ask_person") (scope := defScope (top 27)) (f := f) (cdv := cdv) (A := A) (outer := outer) (s := s) (H := H) (E := E) sc_ask_person.nd
  have hu := hr.units
  have hu0 := hr.units0
  have hu65 := room65 hr
  refine rss_one ?_
  refine rs_if ?_ ?_ ?_
  · refine rt_not ?_
    refine rt_val ?_
    refine re_cP G_is_among c (hr.mono (by decide)) rfl ?_
    refine ra_cons ?_ ?_
    · exact re_var 1
    · refine ra_cons ?_ ?_
      · exact re_int
      · refine ra_cons ?_ ?_
        · refine re_bin op_sub os_sub ?_ ?_
          · refine re_callB call_lenA cs_len rfl z.len bb_len ?_
            refine ra_cons ?_ ?_
            · refine re_ix ?_ ?_
              · exact re_var 0
              · exact re_int
            · exact ra_nil
          · exact re_int
        · exact ra_nil
  · refine rss_one ?_
    exact rs_exc c rfl x_NoWeb
  · exact rss_nil
theorem sc_put_at : FnScope ["some", "place", "thing"] ["some", "place", "thing"] (defScope (top 28)) := ⟨rfl, rfl, rfl, by decide +kernel, rfl, by decide +kernel, by decide +kernel⟩
theorem k_put_at (z : Blt mg) (D0 : DefHere K mg "put_at" (top 28))  : KnP P w K mg base "put_at" 1 ["some", "place", "thing"] m_put_at :=
  known_P (N := ["some", "place", "thing"]) (ps := ["some", "place", "thing"]) (bm := b_put_at) D0 sc_put_at (fun _ _ _ _ _ _ us hl => match us, hl with | [_, _, _], _ => rfl) fun f E cdv A outer s H hr => by
  have c := cok_body (P := P) (w := w) (K := K) (mg := mg) (base := base) (qual := "put_at") (scope := defScope (top 28)) (f := f) (cdv := cdv) (A := A) (outer := outer) (s := s) (H := H) (E := E) sc_put_at.nd
  have hu := hr.units
  have hu0 := hr.units0
  have hu65 := room65 hr
  refine rss_one ?_
  refine rs_ret ?_
  refine re_bin op_addA os_add ?_ ?_
  · refine re_bin op_addA os_add ?_ ?_
    · refine re_sl true ?_ ro_none ?_
      · exact re_var 0
      · refine ro_some ?_
        exact re_var 1
    · refine re_tup ?_
      refine ra_cons ?_ ?_
      · exact re_var 2
      · exact ra_nil
  · refine re_sl true ?_ ?_ ro_none
    · exact re_var 0
    · refine ro_some ?_
      refine re_bin op_addA os_add ?_ ?_
      · exact re_var 1
      · exact re_int
theorem sc_tied_to : FnScope ["some", "other", "weight", "found", "tie"] ["some", "other", "weight"] (defScope (top 29)) := ⟨rfl, rfl, rfl, by decide +kernel, rfl, by decide +kernel, by decide +kernel⟩
theorem k_tied_to (z : Blt mg) (D0 : DefHere K mg "tied_to" (top 29))  : KnP P w K mg base "tied_to" 1 ["some", "other", "weight"] m_tied_to :=
  known_P (N := ["some", "other", "weight", "found", "tie"]) (ps := ["some", "other", "weight"]) (bm := b_tied_to) D0 sc_tied_to (fun _ _ _ _ _ _ us hl => match us, hl with | [_, _, _], _ => rfl) fun f E cdv A outer s H hr => by
  have c := cok_body (P := P) (w := w) (K := K) (mg := mg) (base := base) (qual := "tied_to") (scope := defScope (top 29)) (f := f) (cdv := cdv) (A := A) (outer := outer) (s := s) (H := H) (E := E) sc_tied_to.nd
  have hu := hr.units
  have hu0 := hr.units0
  have hu65 := room65 hr
  refine rss_cons ?_ ?_
  · refine rs_setLc false 3 (own := [("tie", 4)]) c ?_ (by first | exact blkOk_by (N := ["some", "other", "weight", "found", "tie"]) (sc := defScope (top 29)) (by decide +kernel) | exact blkOk_by (by kernel_rfl)) ?_ ?_ ?_
    · refine ri_seq ?_
      exact re_var 0
    · intro _ _ _ _ _
      exact rg_name 4 (cok_blk c)
    · intro _ _ _ _ _
      refine rts_one ?_
      refine rt_cmp (op_neD hu) os_ne ?_ ?_ (nomark _)
      · refine re_ix ?_ ?_
        · exact re_var 4
        · exact re_int
      · exact re_var 1
    · intro _ _ _ _ _
      exact re_var 4
  · refine rss_cons ?_ ?_
    · refine rs_if ?_ ?_ ?_
      · refine rt_cmp op_gt os_gt ?_ ?_ (nomark _)
        · exact re_var 2
        · exact re_int
      · refine rss_one ?_
        refine rs_expr ?_
        refine re_bm .lst PySem.F.plainAttrs_list PySem.F.slot_list_append PySem.F.type_list_append mt_append ms_append ?_ ?_
        · exact re_var 3
        · refine ra_cons ?_ ?_
          · refine re_tup ?_
            refine ra_cons ?_ ?_
            · exact re_var 1
            · refine ra_cons ?_ ?_
              · exact re_var 2
              · exact ra_nil
          · exact ra_nil
      · exact rss_nil
    · refine rss_one ?_
      refine rs_ret ?_
      refine re_callTy call_tuple_ofZ cs_tuple rfl z.tuple bb_tuple ?_
      refine ra_cons ?_ ?_
      · refine re_callB cr_sortedPZ cs_sortP rfl z.sorted bb_sorted ?_
        refine ra_cons ?_ ?_
        · exact re_var 3
        · exact ra_nil
      · exact ra_nil
theorem sc_with_tie : FnScope ["web", "one", "other", "weight", "ties"] ["web", "one", "other", "weight"] (defScope (top 30)) := ⟨rfl, rfl, rfl, by decide +kernel, rfl, by decide +kernel, by decide +kernel⟩
theorem k_with_tie (z : Blt mg) (D0 : DefHere K mg "with_tie" (top 30)) (G_ask_person : KnP P w K mg base "ask_person" 3 ["web", "person"] m_ask_person) (G_is_among : KnP P w K mg base "is_among" 2 ["thing", "low", "high"] m_is_among) (G_tied_to : KnP P w K mg base "tied_to" 1 ["some", "other", "weight"] m_tied_to) (G_put_at : KnP P w K mg base "put_at" 1 ["some", "place", "thing"] m_put_at) (x_NoWeb : ExcK K mg "NoWeb") (i_MOST_WEIGHT : GInt mg "MOST_WEIGHT" 400) : KnP P w K mg base "with_tie" 4 ["web", "one", "other", "weight"] m_with_tie :=
  known_P (N := ["web", "one", "other", "weight", "ties"]) (ps := ["web", "one", "other", "weight"]) (bm := b_with_tie) D0 sc_with_tie (fun _ _ _ _ _ _ us hl => match us, hl with | [_, _, _, _], _ => rfl) fun f E cdv A outer s H hr => by
  have c := cok_body (P := P) (w := w) (K := K) (mg := mg) (base := base) (qual := "with_tie") (scope := defScope (top 30)) (f := f) (cdv := cdv) (A := A) (outer := outer) (s := s) (H := H) (E := E) sc_with_tie.nd
  have hu := hr.units
  have hu0 := hr.units0
  have hu65 := room65 hr
  refine rss_cons ?_ ?_
  · refine rs_expr ?_
    refine re_cP G_ask_person c (hr.mono (by decide)) rfl ?_
    refine ra_cons ?_ ?_
    · exact re_var 0
    · refine ra_cons ?_ ?_
      · exact re_var 1
      · exact ra_nil
  · refine rss_cons ?_ ?_
    · refine rs_expr ?_
      refine re_cP G_ask_person c (hr.mono (by decide)) rfl ?_
      refine ra_cons ?_ ?_
      · exact re_var 0
      · refine ra_cons ?_ ?_
        · exact re_var 2
        · exact ra_nil
    · refine rss_cons ?_ ?_
      · refine rs_if ?_ ?_ ?_
        · refine rt_pw ?_
          refine rw_or ?_ ?_
          · refine rt_cmp (op_eqD hu) os_eq ?_ ?_ (nomark _)
            · exact re_var 1
            · exact re_var 2
          · refine rw_or1 ?_
            refine rt_not ?_
            refine rt_val ?_
            refine re_cP G_is_among c (hr.mono (by decide)) rfl ?_
            refine ra_cons ?_ ?_
            · exact re_var 3
            · refine ra_cons ?_ ?_
              · exact re_int
              · refine ra_cons ?_ ?_
                · exact re_gint rfl i_MOST_WEIGHT
                · exact ra_nil
        · refine rss_one ?_
          exact rs_exc c rfl x_NoWeb
        · exact rss_nil
      · refine rss_cons ?_ ?_
        · refine rs_set 4 c ?_
          refine re_cP G_put_at c (hr.mono (by decide)) rfl ?_
          refine ra_cons ?_ ?_
          · refine re_ix ?_ ?_
            · exact re_var 0
            · exact re_int
          · refine ra_cons ?_ ?_
            · exact re_var 1
            · refine ra_cons ?_ ?_
              · refine re_cP G_tied_to c (hr.mono (by decide)) rfl ?_
                refine ra_cons ?_ ?_
                · refine re_ix ?_ ?_
                  · refine re_ix ?_ ?_
                    · exact re_var 0
                    · exact re_int
                  · exact re_var 1
                · refine ra_cons ?_ ?_
                  · exact re_var 2
                  · refine ra_cons ?_ ?_
                    · exact re_var 3
                    · exact ra_nil
              · exact ra_nil
        · refine rss_cons ?_ ?_
          · refine rs_set 4 c ?_
            refine re_cP G_put_at c (hr.mono (by decide)) rfl ?_
            refine ra_cons ?_ ?_
            · exact re_var 4
            · refine ra_cons ?_ ?_
              · exact re_var 2
              · refine ra_cons ?_ ?_
                · refine re_cP G_tied_to c (hr.mono (by decide)) rfl ?_
                  refine ra_cons ?_ ?_
                  · refine re_ix ?_ ?_
                    · refine re_ix ?_ ?_
                      · exact re_var 0
                      · exact re_int
                    · exact re_var 2
                  · refine ra_cons ?_ ?_
                    · exact re_var 1
                    · refine ra_cons ?_ ?_
                      · exact re_var 3
                      · exact ra_nil
                · exact ra_nil
          · refine rss_one ?_
            refine rs_ret ?_
            refine re_tup ?_
            refine ra_cons ?_ ?_
            · exact re_var 4
            · refine ra_cons ?_ ?_
              · refine re_ix ?_ ?_
                · exact re_var 0
                · exact re_int
              · refine ra_cons ?_ ?_
                · refine re_ix ?_ ?_
                  · exact re_var 0
                  · exact re_int
                · exact ra_nil
theorem sc_with_bar : FnScope ["web", "person", "bar"] ["web", "person", "bar"] (defScope (top 31)) := ⟨rfl, rfl, rfl, by decide +kernel, rfl, by decide +kernel, by decide +kernel⟩
theorem k_with_bar (z : Blt mg) (D0 : DefHere K mg "with_bar" (top 31)) (G_ask_person : KnP P w K mg base "ask_person" 3 ["web", "person"] m_ask_person) (G_is_whole : KnP P w K mg base "is_whole" 1 ["thing"] m_is_whole) (G_put_at : KnP P w K mg base "put_at" 1 ["some", "place", "thing"] m_put_at) (x_NoWeb : ExcK K mg "NoWeb") : KnP P w K mg base "with_bar" 4 ["web", "person", "bar"] m_with_bar :=
  known_P (N := ["web", "person", "bar"]) (ps := ["web", "person", "bar"]) (bm := b_with_bar) D0 sc_with_bar (fun _ _ _ _ _ _ us hl => match us, hl with | [_, _, _], _ => rfl) fun f E cdv A outer s H hr => by
  have c := cok_body (P := P) (w := w) (K := K) (mg := mg) (base := base) (qual := "with_bar") (scope := defScope (top 31)) (f := f) (cdv := cdv) (A := A) (outer := outer) (s := s) (H := H) (E := E) sc_with_bar.nd
  have hu := hr.units
  have hu0 := hr.units0
  have hu65 := room65 hr
  refine rss_cons ?_ ?_
  · refine rs_expr ?_
    refine re_cP G_ask_person c (hr.mono (by decide)) rfl ?_
    refine ra_cons ?_ ?_
    · exact re_var 0
    · refine ra_cons ?_ ?_
      · exact re_var 1
      · exact ra_nil
  · refine rss_cons ?_ ?_
    · refine rs_if ?_ ?_ ?_
      · refine rt_not ?_
        refine rt_val ?_
        refine re_cP G_is_whole c (hr.mono (by decide)) rfl ?_
        refine ra_cons ?_ ?_
        · exact re_var 2
        · exact ra_nil
      · refine rss_one ?_
        exact rs_exc c rfl x_NoWeb
      · exact rss_nil
    · refine rss_one ?_
      refine rs_ret ?_
      refine re_tup ?_
      refine ra_cons ?_ ?_
      · refine re_ix ?_ ?_
        · exact re_var 0
        · exact re_int
      · refine ra_cons ?_ ?_
        · refine re_cP G_put_at c (hr.mono (by decide)) rfl ?_
          refine ra_cons ?_ ?_
          · refine re_ix ?_ ?_
            · exact re_var 0
            · exact re_int
          · refine ra_cons ?_ ?_
            · exact re_var 1
            · refine ra_cons ?_ ?_
              · exact re_var 2
              · exact ra_nil
        · refine ra_cons ?_ ?_
          · refine re_ix ?_ ?_
            · exact re_var 0
            · exact re_int
          · exact ra_nil
theorem sc_with_stay : FnScope ["web", "person", "stay"] ["web", "person", "stay"] (defScope (top 32)) := ⟨rfl, rfl, rfl, by decide +kernel, rfl, by decide +kernel, by decide +kernel⟩
theorem k_with_stay (z : Blt mg) (D0 : DefHere K mg "with_stay" (top 32)) (G_ask_person : KnP P w K mg base "ask_person" 3 ["web", "person"] m_ask_person) (G_is_stay : KnP P w K mg base "is_stay" 3 ["thing"] m_is_stay) (G_put_at : KnP P w K mg base "put_at" 1 ["some", "place", "thing"] m_put_at) (x_NoWeb : ExcK K mg "NoWeb") : KnP P w K mg base "with_stay" 4 ["web", "person", "stay"] m_with_stay :=
  known_P (N := ["web", "person", "stay"]) (ps := ["web", "person", "stay"]) (bm := b_with_stay) D0 sc_with_stay (fun _ _ _ _ _ _ us hl => match us, hl with | [_, _, _], _ => rfl) fun f E cdv A outer s H hr => by
  have c := cok_body (P := P) (w := w) (K := K) (mg := mg) (base := base) (qual := "with_stay") (scope := defScope (top 32)) (f := f) (cdv := cdv) (A := A) (outer := outer) (s := s) (H := H) (E := E) sc_with_stay.nd
  have hu := hr.units
  have hu0 := hr.units0
  have hu65 := room65 hr
  refine rss_cons ?_ ?_
  · refine rs_expr ?_
    refine re_cP G_ask_person c (hr.mono (by decide)) rfl ?_
    refine ra_cons ?_ ?_
    · exact re_var 0
    · refine ra_cons ?_ ?_
      · exact re_var 1
      · exact ra_nil
  · refine rss_cons ?_ ?_
    · refine rs_if ?_ ?_ ?_
      · refine rt_not ?_
        refine rt_val ?_
        refine re_cP G_is_stay c (hr.mono (by decide)) rfl ?_
        refine ra_cons ?_ ?_
        · exact re_var 2
        · exact ra_nil
      · refine rss_one ?_
        exact rs_exc c rfl x_NoWeb
      · exact rss_nil
    · refine rss_one ?_
      refine rs_ret ?_
      refine re_tup ?_
      refine ra_cons ?_ ?_
      · refine re_ix ?_ ?_
        · exact re_var 0
        · exact re_int
      · refine ra_cons ?_ ?_
        · refine re_ix ?_ ?_
          · exact re_var 0
          · exact re_int
        · refine ra_cons ?_ ?_
          · refine re_cP G_put_at c (hr.mono (by decide)) rfl ?_
            refine ra_cons ?_ ?_
            · refine re_ix ?_ ?_
              · exact re_var 0
              · exact re_int
            · refine ra_cons ?_ ?_
              · exact re_var 1
              · refine ra_cons ?_ ?_
                · exact re_var 2
                · exact ra_nil
          · exact ra_nil
theorem sc_differ : FnScope ["web", "stand", "other", "beyond", "turns", "found", "both", "turn_number", "pair", "person"] ["web", "stand", "other", "beyond", "turns"] (defScope (top 33)) := ⟨rfl, rfl, rfl, by decide +kernel, rfl, by decide +kernel, by decide +kernel⟩
theorem k_differ (z : Blt mg) (D0 : DefHere K mg "differ" (top 33)) (G_history : KnP P w K mg base "history" 6 ["web", "stand", "turns"] m_history) : KnP P w K mg base "differ" 7 ["web", "stand", "other", "beyond", "turns"] m_differ :=
  known_P (N := ["web", "stand", "other", "beyond", "turns", "found", "both", "turn_number", "pair", "person"]) (ps := ["web", "stand", "other", "beyond", "turns"]) (bm := b_differ) D0 sc_differ (fun _ _ _ _ _ _ us hl => match us, hl with | [_, _, _, _, _], _ => rfl) fun f E cdv A outer s H hr => by
  have c := cok_body (P := P) (w := w) (K := K) (mg := mg) (base := base) (qual := "differ") (scope := defScope (top 33)) (f := f) (cdv := cdv) (A := A) (outer := outer) (s := s) (H := H) (E := E) sc_differ.nd
  have hu := hr.units
  have hu0 := hr.units0
  have hu65 := room65 hr
  refine rss_cons ?_ ?_
  · refine rs_set 5 c ?_
    refine re_lst false ?_
    exact ra_nil
  · refine rss_cons ?_ ?_
    · refine rs_set 6 c ?_
      refine re_listZip true c.calm rfl z.list rfl z.zip ?_
      refine ra_cons ?_ ?_
      · refine re_cP G_history c (hr.mono (by decide)) rfl ?_
        refine ra_cons ?_ ?_
        · exact re_var 0
        · refine ra_cons ?_ ?_
          · exact re_var 1
          · refine ra_cons ?_ ?_
            · exact re_var 4
            · exact ra_nil
      · refine ra_cons ?_ ?_
        · refine re_cP G_history c (hr.mono (by decide)) rfl ?_
          refine ra_cons ?_ ?_
          · exact re_var 2
          · refine ra_cons ?_ ?_
            · exact re_var 3
            · refine ra_cons ?_ ?_
              · exact re_var 4
              · exact ra_nil
        · exact ra_nil
    · refine rss_cons ?_ ?_
      · refine rs_for (vs := [7, 8]) c ?_ ?_ ?_
        · refine ri_enum rfl z.enumerate ?_
          refine ra_cons ?_ ?_
          · exact re_var 6
          · exact ra_nil
        · refine rg_tup 2 c ?_
          refine rgs_cons ?_ ?_
          · exact rg_name 7 c
          · refine rgs_cons ?_ ?_
            · exact rg_name 8 c
            · exact rgs_nil
        · refine rss_one ?_
          refine rs_for (vs := [9]) c ?_ ?_ ?_
          · refine ri_range1 rfl z.range ?_
            refine ra_cons ?_ ?_
            · refine re_callB call_lenA cs_len rfl z.len bb_len ?_
              refine ra_cons ?_ ?_
              · exact re_var 1
              · exact ra_nil
            · exact ra_nil
          · exact rg_name 9 c
          · refine rss_one ?_
            refine rs_if ?_ ?_ ?_
            · refine rt_cmp (op_neD hu) os_ne ?_ ?_ (nomark _)
              · refine re_ix ?_ ?_
                · refine re_ix ?_ ?_
                  · exact re_var 8
                  · exact re_int
                · exact re_var 9
              · refine re_ix ?_ ?_
                · refine re_ix ?_ ?_
                  · exact re_var 8
                  · exact re_int
                · exact re_var 9
            · refine rss_one ?_
              refine rs_expr ?_
              refine re_bm .lst PySem.F.plainAttrs_list PySem.F.slot_list_append PySem.F.type_list_append mt_append ms_append ?_ ?_
              · exact re_var 5
              · refine ra_cons ?_ ?_
                · refine re_tup ?_
                  refine ra_cons ?_ ?_
                  · exact re_var 7
                  · refine ra_cons ?_ ?_
                    · exact re_var 9
                    · exact ra_nil
                · exact ra_nil
            · exact rss_nil
      · refine rss_one ?_
        refine rs_ret ?_
        exact re_var 5
theorem sc_other_of : FnScope ["held"] ["held"] (defScope (top 34)) := ⟨rfl, rfl, rfl, by decide +kernel, rfl, by decide +kernel, by decide +kernel⟩
theorem k_other_of (z : Blt mg) (D0 : DefHere K mg "other_of" (top 34))  : KnP P w K mg base "other_of" 1 ["held"] m_other_of :=
  known_P (N := ["held"]) (ps := ["held"]) (bm := b_other_of) D0 sc_other_of (fun _ _ _ _ _ _ us hl => match us, hl with | [_], _ => rfl) fun f E cdv A outer s H hr => by
  have c := cok_body (P := P) (w := w) (K := K) (mg := mg) (base := base) (qual := "other_of") (scope := defScope (top 34)) (f := f) (cdv := cdv) (A := A) (outer := outer) (s := s) (H := H) (E := E) sc_other_of.nd
  have hu := hr.units
  have hu0 := hr.units0
  have hu65 := room65 hr
  refine rss_cons ?_ ?_
  · refine rs_if ?_ ?_ ?_
    · refine rt_isN ?_
      exact re_var 0
    · refine rss_one ?_
      refine rs_ret ?_
      exact re_non
    · exact rss_nil
  · refine rss_one ?_
    refine rs_ret ?_
    refine re_bin op_sub os_sub ?_ ?_
    · exact re_int
    · exact re_var 0
theorem sc_exchanged_stand : FnScope ["stand", "held"] ["stand"] (defScope (top 35)) := ⟨rfl, rfl, rfl, by decide +kernel, rfl, by decide +kernel, by decide +kernel⟩
theorem k_exchanged_stand (z : Blt mg) (D0 : DefHere K mg "exchanged_stand" (top 35)) (G_other_of : KnP P w K mg base "other_of" 1 ["held"] m_other_of) : KnP P w K mg base "exchanged_stand" 2 ["stand"] m_exchanged_stand :=
  known_P (N := ["stand", "held"]) (ps := ["stand"]) (bm := b_exchanged_stand) D0 sc_exchanged_stand (fun _ _ _ _ _ _ us hl => match us, hl with | [_], _ => rfl) fun f E cdv A outer s H hr => by
  have c := cok_body (P := P) (w := w) (K := K) (mg := mg) (base := base) (qual := "exchanged_stand") (scope := defScope (top 35)) (f := f) (cdv := cdv) (A := A) (outer := outer) (s := s) (H := H) (E := E) sc_exchanged_stand.nd
  have hu := hr.units
  have hu0 := hr.units0
  have hu65 := room65 hr
  refine rss_one ?_
  refine rs_ret ?_
  refine re_callTy call_tuple_ofZ cs_tuple rfl z.tuple bb_tuple ?_
  refine ra_cons ?_ ?_
  · refine re_lc true (own := [("held", 1)]) c ?_ (by first | exact blkOk_by (N := ["stand", "held"]) (sc := defScope (top 35)) (by decide +kernel) | exact blkOk_by (by kernel_rfl)) ?_ ?_ ?_
    · refine ri_seq ?_
      exact re_var 0
    · intro _ _ _ _ _
      exact rg_name 1 (cok_blk c)
    · intro _ _ _ _ _
      exact rts_nil
    · intro _ _ _ _ _
      refine re_cP G_other_of (cok_blk c) (hr.mono (by decide)) rfl ?_
      refine ra_cons ?_ ?_
      · exact re_var 1
      · exact ra_nil
  · exact ra_nil
theorem sc_exchanged : FnScope ["web", "bars", "person"] ["web"] (defScope (top 36)) := ⟨rfl, rfl, rfl, by decide +kernel, rfl, by decide +kernel, by decide +kernel⟩
theorem k_exchanged (z : Blt mg) (D0 : DefHere K mg "exchanged" (top 36)) (G_weights_of : KnP P w K mg base "weights_of" 2 ["web", "person"] m_weights_of) (G_exchanged_stand : KnP P w K mg base "exchanged_stand" 2 ["stand"] m_exchanged_stand) : KnP P w K mg base "exchanged" 3 ["web"] m_exchanged :=
  known_P (N := ["web", "bars", "person"]) (ps := ["web"]) (bm := b_exchanged) D0 sc_exchanged (fun _ _ _ _ _ _ us hl => match us, hl with | [_], _ => rfl) fun f E cdv A outer s H hr => by
  have c := cok_body (P := P) (w := w) (K := K) (mg := mg) (base := base) (qual := "exchanged") (scope := defScope (top 36)) (f := f) (cdv := cdv) (A := A) (outer := outer) (s := s) (H := H) (E := E) sc_exchanged.nd
  have hu := hr.units
  have hu0 := hr.units0
  have hu65 := room65 hr
  refine rss_cons ?_ ?_
  · refine rs_setLc true 1 (own := [("person", 2)]) c ?_ (by first | exact blkOk_by (N := ["web", "bars", "person"]) (sc := defScope (top 36)) (by decide +kernel) | exact blkOk_by (by kernel_rfl)) ?_ ?_ ?_
    · refine ri_range1 rfl z.range ?_
      refine ra_cons ?_ ?_
      · refine re_callB call_lenA cs_len rfl z.len bb_len ?_
        refine ra_cons ?_ ?_
        · refine re_ix ?_ ?_
          · exact re_var 0
          · exact re_int
        · exact ra_nil
      · exact ra_nil
    · intro _ _ _ _ _
      exact rg_name 2 (cok_blk c)
    · intro _ _ _ _ _
      exact rts_nil
    · intro _ _ _ _ _
      refine re_bin op_sub os_sub ?_ ?_
      · refine re_bin op_mulA os_mul ?_ ?_
        · exact re_int
        · refine re_cP G_weights_of (cok_blk c) (hr.mono (by decide)) rfl ?_
          refine ra_cons ?_ ?_
          · exact re_var 0
          · refine ra_cons ?_ ?_
            · exact re_var 2
            · exact ra_nil
      · refine re_ix ?_ ?_
        · refine re_ix ?_ ?_
          · exact re_var 0
          · exact re_int
        · exact re_var 2
  · refine rss_one ?_
    refine rs_ret ?_
    refine re_tup ?_
    refine ra_cons ?_ ?_
    · refine re_ix ?_ ?_
      · exact re_var 0
      · exact re_int
    · refine ra_cons ?_ ?_
      · refine re_callTy call_tuple_ofZ cs_tuple rfl z.tuple bb_tuple ?_
        refine ra_cons ?_ ?_
        · exact re_var 1
        · exact ra_nil
      · refine ra_cons ?_ ?_
        · refine re_cP G_exchanged_stand c (hr.mono (by decide)) rfl ?_
          refine ra_cons ?_ ?_
          · refine re_ix ?_ ?_
            · exact re_var 0
            · exact re_int
          · exact ra_nil
        · exact ra_nil
theorem sc__law_state : FnScope ["_law_script", "_law_k", "_law_cell", "_law_mixed"] ["_law_script", "_law_k"] (defScope (top 38)) := ⟨rfl, rfl, rfl, by decide +kernel, rfl, by decide +kernel, by decide +kernel⟩
theorem k__law_state (z : Blt mg) (D0 : DefHere K mg "_law_state" (top 38))  : KnP P w K mg base "_law_state" 1 ["_law_script", "_law_k"] m__law_state :=
  known_P (N := ["_law_script", "_law_k", "_law_cell", "_law_mixed"]) (ps := ["_law_script", "_law_k"]) (bm := b__law_state) D0 sc__law_state (fun _ _ _ _ _ _ us hl => match us, hl with | [_, _], _ => rfl) fun f E cdv A outer s H hr => by
  have c := cok_body (P := P) (w := w) (K := K) (mg := mg) (base := base) (qual := "_law_state") (scope := defScope (top 38)) (f := f) (cdv := cdv) (A := A) (outer := outer) (s := s) (H := H) (E := E) sc__law_state.nd
  have hu := hr.units
  have hu0 := hr.units0
  have hu65 := room65 hr
  refine rss_cons ?_ ?_
  · refine rs_set 2 c ?_
    exact re_int
  · refine rss_cons ?_ ?_
    · refine rs_if ?_ ?_ ?_
      · refine rt_cmp (op_ltA hu0) os_lt ?_ ?_ (nomark _)
        · exact re_var 1
        · refine re_callB call_lenA cs_len rfl z.len bb_len ?_
          refine ra_cons ?_ ?_
          · exact re_var 0
          · exact ra_nil
      · refine rss_one ?_
        refine rs_set 2 c ?_
        refine re_ix ?_ ?_
        · exact re_var 0
        · exact re_var 1
      · exact rss_nil
    · refine rss_cons ?_ ?_
      · refine rs_set 3 c ?_
        refine re_or ?_ ?_
        · refine re_cmp (op_eqD hu) os_eq ?_ ?_ (nomark _)
          · refine re_callB call_lenA cs_len rfl z.len bb_len ?_
            refine ra_cons ?_ ?_
            · exact re_var 0
            · exact ra_nil
          · exact re_int
        · refine re_one ?_
          refine re_cmp (op_eqD hu) os_eq ?_ ?_ (nomark _)
          · refine re_bin op_mod os_mod ?_ ?_
            · refine re_ix ?_ ?_
              · exact re_var 0
              · exact re_int
            · exact re_int
          · exact re_int
      · refine rss_cons ?_ ?_
        · refine rs_if ?_ ?_ ?_
          · refine rt_val ?_
            exact re_var 3
          · refine rss_one ?_
            refine rs_set 2 c ?_
            refine re_bin op_addA os_add ?_ ?_
            · refine re_bin op_mod os_mod ?_ ?_
              · exact re_var 2
              · exact re_int
            · refine re_bin op_mulA os_mul ?_ ?_
              · exact re_int
              · exact re_var 1
          · exact rss_nil
        · refine rss_one ?_
          refine rs_ret ?_
          refine re_lst true ?_
          refine ra_cons ?_ ?_
          · exact re_var 2
          · refine ra_cons ?_ ?_
            · exact re_int
            · refine ra_cons ?_ ?_
              · exact re_var 3
              · exact ra_nil
theorem sc__law_digit : FnScope ["_law_state_here", "_law_most", "_law_found", "_law_number"] ["_law_state_here", "_law_most"] (defScope (top 39)) := ⟨rfl, rfl, rfl, by decide +kernel, rfl, by decide +kernel, by decide +kernel⟩
theorem k__law_digit (z : Blt mg) (D0 : DefHere K mg "_law_digit" (top 39))  : KnM P w K mg base "_law_digit" 1 ["_law_state_here", "_law_most"] m__law_digit :=
  known_M (N := ["_law_state_here", "_law_most", "_law_found", "_law_number"]) (ps := ["_law_state_here", "_law_most"]) (bm := b__law_digit) D0 sc__law_digit (fun _ _ _ _ _ _ us hl => match us, hl with | [_, _], _ => rfl) fun f E cdv A outer s H hr => by
  have c := cok_body (P := P) (w := w) (K := K) (mg := mg) (base := base) (qual := "_law_digit") (scope := defScope (top 39)) (f := f) (cdv := cdv) (A := A) (outer := outer) (s := s) (H := H) (E := E) sc__law_digit.nd
  have hu := hr.units
  have hu0 := hr.units0
  have hu65 := room65 hr
  refine rss_cons ?_ ?_
  · refine rs_asg (vs := []) ?_ ?_
    · refine re_bin op_addA os_add ?_ ?_
      · refine re_ix ?_ ?_
        · exact re_var 0
        · exact re_int
      · exact re_int
    · refine rg_sub ?_ ?_
      · exact re_var 0
      · exact re_int
  · refine rss_cons ?_ ?_
    · refine rs_if ?_ ?_ ?_
      · refine rt_val ?_
        refine re_ix ?_ ?_
        · exact re_var 0
        · exact re_int
      · refine rss_cons ?_ ?_
        · refine rs_set 3 c ?_
          refine re_bin op_mod os_mod ?_ ?_
          · refine re_bin op_mulA os_mul ?_ ?_
            · refine re_bin op_addA os_add ?_ ?_
              · refine re_bin op_addA os_add ?_ ?_
                · refine re_ix ?_ ?_
                  · exact re_var 0
                  · exact re_int
                · refine re_bin op_mulA os_mul ?_ ?_
                  · exact re_int
                  · refine re_ix ?_ ?_
                    · exact re_var 0
                    · exact re_int
              · exact re_int
            · exact re_int
          · exact re_int
        · refine rss_cons ?_ ?_
          · refine rs_set 3 c ?_
            refine re_bin op_mod os_mod ?_ ?_
            · refine re_bin op_mulA os_mul ?_ ?_
              · exact re_var 3
              · refine re_bin op_addA os_add ?_ ?_
                · refine re_bin op_mod os_mod ?_ ?_
                  · exact re_var 3
                  · exact re_int
                · refine re_ix ?_ ?_
                  · exact re_var 0
                  · exact re_int
            · exact re_int
          · refine rss_one ?_
            refine rs_ret ?_
            refine re_bin op_mod os_mod ?_ ?_
            · refine re_bin op_mod os_mod ?_ ?_
              · refine re_bin op_addA os_add ?_ ?_
                · refine re_bin op_mulA os_mul ?_ ?_
                  · exact re_var 3
                  · exact re_var 3
                · refine re_bin op_mulA os_mul ?_ ?_
                  · exact re_int
                  · exact re_var 3
              · exact re_int
            · exact re_var 1
      · exact rss_nil
    · refine rss_cons ?_ ?_
      · refine rs_set 2 c ?_
        refine re_bin op_mod os_mod ?_ ?_
        · refine re_ix ?_ ?_
          · exact re_var 0
          · exact re_int
        · exact re_var 1
      · refine rss_cons ?_ ?_
        · refine rs_asg (vs := []) ?_ ?_
          · refine re_bin op_fdivW os_fdiv ?_ ?_
            · refine re_ix ?_ ?_
              · exact re_var 0
              · exact re_int
            · exact re_var 1
          · refine rg_sub ?_ ?_
            · exact re_var 0
            · exact re_int
        · refine rss_one ?_
          refine rs_ret ?_
          exact re_var 2
theorem sc__law_bar : FnScope ["_law_kind", "_law_number", "_law_total"] ["_law_kind", "_law_number", "_law_total"] (defScope (top 40)) := ⟨rfl, rfl, rfl, by decide +kernel, rfl, by decide +kernel, by decide +kernel⟩
theorem k__law_bar (z : Blt mg) (D0 : DefHere K mg "_law_bar" (top 40))  : KnP P w K mg base "_law_bar" 1 ["_law_kind", "_law_number", "_law_total"] m__law_bar :=
  known_P (N := ["_law_kind", "_law_number", "_law_total"]) (ps := ["_law_kind", "_law_number", "_law_total"]) (bm := b__law_bar) D0 sc__law_bar (fun _ _ _ _ _ _ us hl => match us, hl with | [_, _, _], _ => rfl) fun f E cdv A outer s H hr => by
  have c := cok_body (P := P) (w := w) (K := K) (mg := mg) (base := base) (qual := "_law_bar") (scope := defScope (top 40)) (f := f) (cdv := cdv) (A := A) (outer := outer) (s := s) (H := H) (E := E) sc__law_bar.nd
  have hu := hr.units
  have hu0 := hr.units0
  have hu65 := room65 hr
  refine rss_cons ?_ ?_
  · refine rs_if ?_ ?_ ?_
    · refine rt_cmp (op_eqD hu) os_eq ?_ ?_ (nomark _)
      · exact re_var 0
      · exact re_int
    · refine rss_one ?_
      refine rs_ret ?_
      exact re_var 2
    · exact rss_nil
  · refine rss_cons ?_ ?_
    · refine rs_if ?_ ?_ ?_
      · refine rt_cmp (op_eqD hu) os_eq ?_ ?_ (nomark _)
        · exact re_var 0
        · exact re_int
      · refine rss_one ?_
        refine rs_ret ?_
        refine re_bin op_sub os_sub ?_ ?_
        · exact re_var 1
        · exact re_int
      · exact rss_nil
    · refine rss_cons ?_ ?_
      · refine rs_if ?_ ?_ ?_
        · refine rt_cmp (op_eqD hu) os_eq ?_ ?_ (nomark _)
          · exact re_var 0
          · exact re_int
        · refine rss_one ?_
          refine rs_ret ?_
          refine re_bin op_sub os_sub ?_ ?_
          · refine re_bin op_addA os_add ?_ ?_
            · exact re_var 2
            · refine re_bin op_mod os_mod ?_ ?_
              · exact re_var 1
              · exact re_int
          · exact re_int
        · exact rss_nil
      · refine rss_cons ?_ ?_
        · refine rs_if ?_ ?_ ?_
          · refine rt_cmp (op_eqD hu) os_eq ?_ ?_ (nomark _)
            · exact re_var 0
            · exact re_int
          · refine rss_one ?_
            refine rs_ret ?_
            refine re_bin op_mulA os_mul ?_ ?_
            · exact re_int
            · refine re_bin op_mod os_mod ?_ ?_
              · exact re_var 1
              · refine re_bin op_addA os_add ?_ ?_
                · exact re_var 2
                · exact re_int
          · exact rss_nil
        · refine rss_one ?_
          refine rs_ret ?_
          refine re_bin op_mulA os_mul ?_ ?_
          · refine re_bin op_addA os_add ?_ ?_
            · refine re_bin op_pow os_pow ?_ ?_
              · exact re_int
              · exact re_int
            · exact re_var 1
          · refine re_ix ?_ ?_
            · refine re_lst true ?_
              refine ra_cons ?_ ?_
              · exact re_int
              · refine ra_cons ?_ ?_
                · refine re_un un_neg us_neg ?_
                  exact re_int
                · exact ra_nil
            · refine re_bin op_mod os_mod ?_ ?_
              · exact re_var 1
              · exact re_int
theorem sc__law_people : FnScope ["_law_script", "_law_head", "_law_many", "_law_thin", "_law_ties", "_law_bars", "_law_stays", "_law_totals", "_law_one", "_law_state_here", "_law_other", "_law_heavy"] ["_law_script"] (defScope (top 41)) := ⟨rfl, rfl, rfl, by decide +kernel, rfl, by decide +kernel, by decide +kernel⟩
theorem k__law_people (z : Blt mg) (D0 : DefHere K mg "_law_people" (top 41)) (G__law_state : KnP P w K mg base "_law_state" 1 ["_law_script", "_law_k"] m__law_state) (G__law_digit : KnM P w K mg base "_law_digit" 1 ["_law_state_here", "_law_most"] m__law_digit) (G__law_bar : KnP P w K mg base "_law_bar" 1 ["_law_kind", "_law_number", "_law_total"] m__law_bar) : KnP P w K mg base "_law_people" 2 ["_law_script"] m__law_people :=
  known_P (N := ["_law_script", "_law_head", "_law_many", "_law_thin", "_law_ties", "_law_bars", "_law_stays", "_law_totals", "_law_one", "_law_state_here", "_law_other", "_law_heavy"]) (ps := ["_law_script"]) (bm := b__law_people) D0 sc__law_people (fun _ _ _ _ _ _ us hl => match us, hl with | [_], _ => rfl) fun f E cdv A outer s H hr => by
  have c := cok_body (P := P) (w := w) (K := K) (mg := mg) (base := base) (qual := "_law_people") (scope := defScope (top 41)) (f := f) (cdv := cdv) (A := A) (outer := outer) (s := s) (H := H) (E := E) sc__law_people.nd
  have hu := hr.units
  have hu0 := hr.units0
  have hu65 := room65 hr
  refine rss_cons ?_ ?_
  · refine rs_set 1 c ?_
    refine re_cT G__law_state c (hr.mono (by decide)) rfl ?_
    refine ra_cons ?_ ?_
    · exact re_var 0
    · refine ra_cons ?_ ?_
      · exact re_int
      · exact ra_nil
  · refine rss_cons ?_ ?_
    · refine rs_expr ?_
      refine re_cM G__law_digit c (hr.mono (by decide)) rfl ?_
      refine ra_cons ?_ ?_
      · exact re_var 1
      · refine ra_cons ?_ ?_
        · exact re_int
        · exact ra_nil
    · refine rss_cons ?_ ?_
      · refine rs_set 2 c ?_
        refine re_bin op_addA os_add ?_ ?_
        · exact re_int
        · refine re_cM G__law_digit c (hr.mono (by decide)) rfl ?_
          refine ra_cons ?_ ?_
          · exact re_var 1
          · refine ra_cons ?_ ?_
            · refine re_ix ?_ ?_
              · refine re_lst true ?_
                refine ra_cons ?_ ?_
                · exact re_int
                · refine ra_cons ?_ ?_
                  · exact re_int
                  · refine ra_cons ?_ ?_
                    · exact re_int
                    · exact ra_nil
              · refine re_cM G__law_digit c (hr.mono (by decide)) rfl ?_
                refine ra_cons ?_ ?_
                · exact re_var 1
                · refine ra_cons ?_ ?_
                  · exact re_int
                  · exact ra_nil
            · exact ra_nil
      · refine rss_cons ?_ ?_
        · refine rs_set 3 c ?_
          refine re_ix ?_ ?_
          · refine re_lst true ?_
            refine ra_cons ?_ ?_
            · exact re_int
            · refine ra_cons ?_ ?_
              · exact re_int
              · refine ra_cons ?_ ?_
                · exact re_int
                · exact ra_nil
          · refine re_cM G__law_digit c (hr.mono (by decide)) rfl ?_
            refine ra_cons ?_ ?_
            · exact re_var 1
            · refine ra_cons ?_ ?_
              · exact re_int
              · exact ra_nil
        · refine rss_cons ?_ ?_
          · refine rs_set 4 c ?_
            refine re_lst false ?_
            exact ra_nil
          · refine rss_cons ?_ ?_
            · refine rs_set 5 c ?_
              refine re_lst false ?_
              exact ra_nil
            · refine rss_cons ?_ ?_
              · refine rs_set 6 c ?_
                refine re_lst false ?_
                exact ra_nil
              · refine rss_cons ?_ ?_
                · refine rs_set 7 c ?_
                  refine re_bin op_mulA os_mul ?_ ?_
                  · refine re_lst true ?_
                    refine ra_cons ?_ ?_
                    · exact re_int
                    · exact ra_nil
                  · exact re_var 2
                · refine rss_cons ?_ ?_
                  · refine rs_for (vs := [8]) c ?_ ?_ ?_
                    · refine ri_range1 rfl z.range ?_
                      refine ra_cons ?_ ?_
                      · exact re_var 2
                      · exact ra_nil
                    · exact rg_name 8 c
                    · refine rss_cons ?_ ?_
                      · refine rs_set 9 c ?_
                        refine re_cT G__law_state c (hr.mono (by decide)) rfl ?_
                        refine ra_cons ?_ ?_
                        · exact re_var 0
                        · refine ra_cons ?_ ?_
                          · refine re_bin op_addA os_add ?_ ?_
                            · exact re_int
                            · exact re_var 8
                          · exact ra_nil
                      · refine rss_cons ?_ ?_
                        · refine rs_expr ?_
                          refine re_bm .lst PySem.F.plainAttrs_list PySem.F.slot_list_append PySem.F.type_list_append mt_append ms_append ?_ ?_
                          · exact re_var 6
                          · refine ra_cons ?_ ?_
                            · refine re_ix ?_ ?_
                              · refine re_lst true ?_
                                refine ra_cons ?_ ?_
                                · exact re_non
                                · refine ra_cons ?_ ?_
                                  · exact re_non
                                  · refine ra_cons ?_ ?_
                                    · exact re_non
                                    · refine ra_cons ?_ ?_
                                      · exact re_int
                                      · refine ra_cons ?_ ?_
                                        · exact re_int
                                        · exact ra_nil
                              · refine re_cM G__law_digit c (hr.mono (by decide)) rfl ?_
                                refine ra_cons ?_ ?_
                                · exact re_var 9
                                · refine ra_cons ?_ ?_
                                  · exact re_int
                                  · exact ra_nil
                            · exact ra_nil
                        · refine rss_cons ?_ ?_
                          · refine rs_expr ?_
                            refine re_bm .lst PySem.F.plainAttrs_list PySem.F.slot_list_append PySem.F.type_list_append mt_append ms_append ?_ ?_
                            · exact re_var 5
                            · refine ra_cons ?_ ?_
                              · refine re_tup ?_
                                refine ra_cons ?_ ?_
                                · refine re_cM G__law_digit c (hr.mono (by decide)) rfl ?_
                                  refine ra_cons ?_ ?_
                                  · exact re_var 9
                                  · refine ra_cons ?_ ?_
                                    · exact re_int
                                    · exact ra_nil
                                · refine ra_cons ?_ ?_
                                  · refine re_cM G__law_digit c (hr.mono (by decide)) rfl ?_
                                    refine ra_cons ?_ ?_
                                    · exact re_var 9
                                    · refine ra_cons ?_ ?_
                                      · exact re_int
                                      · exact ra_nil
                                  · exact ra_nil
                              · exact ra_nil
                          · refine rss_one ?_
                            refine rs_for (vs := [10]) c ?_ ?_ ?_
                            · refine ri_range1 rfl z.range ?_
                              refine ra_cons ?_ ?_
                              · exact re_var 8
                              · exact ra_nil
                            · exact rg_name 10 c
                            · refine rss_one ?_
                              refine rs_if ?_ ?_ ?_
                              · refine rt_cmp (op_eqD hu) os_eq ?_ ?_ (nomark _)
                                · refine re_cM G__law_digit c (hr.mono (by decide)) rfl ?_
                                  refine ra_cons ?_ ?_
                                  · exact re_var 9
                                  · refine ra_cons ?_ ?_
                                    · exact re_var 3
                                    · exact ra_nil
                                · exact re_int
                              · refine rss_cons ?_ ?_
                                · refine rs_set 11 c ?_
                                  refine re_bin op_addA os_add ?_ ?_
                                  · exact re_int
                                  · refine re_cM G__law_digit c (hr.mono (by decide)) rfl ?_
                                    refine ra_cons ?_ ?_
                                    · exact re_var 9
                                    · refine ra_cons ?_ ?_
                                      · refine re_ix ?_ ?_
                                        · refine re_lst true ?_
                                          refine ra_cons ?_ ?_
                                          · exact re_int
                                          · refine ra_cons ?_ ?_
                                            · exact re_int
                                            · exact ra_nil
                                        · refine re_cM G__law_digit c (hr.mono (by decide)) rfl ?_
                                          refine ra_cons ?_ ?_
                                          · exact re_var 9
                                          · refine ra_cons ?_ ?_
                                            · exact re_int
                                            · exact ra_nil
                                      · exact ra_nil
                                · refine rss_cons ?_ ?_
                                  · refine rs_expr ?_
                                    refine re_bm .lst PySem.F.plainAttrs_list PySem.F.slot_list_insert PySem.F.type_list_insert mt_insert ms_insert ?_ ?_
                                    · exact re_var 4
                                    · refine ra_cons ?_ ?_
                                      · refine re_cM G__law_digit c (hr.mono (by decide)) rfl ?_
                                        refine ra_cons ?_ ?_
                                        · exact re_var 9
                                        · refine ra_cons ?_ ?_
                                          · refine re_bin op_addA os_add ?_ ?_
                                            · refine re_callB call_lenA cs_len rfl z.len bb_len ?_
                                              refine ra_cons ?_ ?_
                                              · exact re_var 4
                                              · exact ra_nil
                                            · exact re_int
                                          · exact ra_nil
                                      · refine ra_cons ?_ ?_
                                        · refine re_ix ?_ ?_
                                          · refine re_lst true ?_
                                            refine ra_cons ?_ ?_
                                            · refine re_tup ?_
                                              refine ra_cons ?_ ?_
                                              · exact re_var 8
                                              · refine ra_cons ?_ ?_
                                                · exact re_var 10
                                                · refine ra_cons ?_ ?_
                                                  · exact re_var 11
                                                  · exact ra_nil
                                            · refine ra_cons ?_ ?_
                                              · refine re_tup ?_
                                                refine ra_cons ?_ ?_
                                                · exact re_var 10
                                                · refine ra_cons ?_ ?_
                                                  · exact re_var 8
                                                  · refine ra_cons ?_ ?_
                                                    · exact re_var 11
                                                    · exact ra_nil
                                              · exact ra_nil
                                          · refine re_bin op_mod os_mod ?_ ?_
                                            · exact re_var 11
                                            · exact re_int
                                        · exact ra_nil
                                  · refine rss_cons ?_ ?_
                                    · refine rs_asg (vs := []) ?_ ?_
                                      · refine re_bin op_addA os_add ?_ ?_
                                        · refine re_ix ?_ ?_
                                          · exact re_var 7
                                          · exact re_var 8
                                        · exact re_var 11
                                      · refine rg_sub ?_ ?_
                                        · exact re_var 7
                                        · exact re_var 8
                                    · refine rss_one ?_
                                      refine rs_asg (vs := []) ?_ ?_
                                      · refine re_bin op_addA os_add ?_ ?_
                                        · refine re_ix ?_ ?_
                                          · exact re_var 7
                                          · exact re_var 10
                                        · exact re_var 11
                                      · refine rg_sub ?_ ?_
                                        · exact re_var 7
                                        · exact re_var 10
                              · exact rss_nil
                  · refine rss_cons ?_ ?_
                    · refine rs_set 5 c ?_
                      refine re_lc false (own := [("_law_one", 8)]) c ?_ (by first | exact blkOk_by (N := ["_law_script", "_law_head", "_law_many", "_law_thin", "_law_ties", "_law_bars", "_law_stays", "_law_totals", "_law_one", "_law_state_here", "_law_other", "_law_heavy"]) (sc := defScope (top 41)) (by decide +kernel) | exact blkOk_by (by kernel_rfl)) ?_ ?_ ?_
                      · refine ri_range1 rfl z.range ?_
                        refine ra_cons ?_ ?_
                        · exact re_var 2
                        · exact ra_nil
                      · intro _ _ _ _ _
                        exact rg_name 8 (cok_blk c)
                      · intro _ _ _ _ _
                        exact rts_nil
                      · intro _ _ _ _ _
                        refine re_cP G__law_bar (cok_blk c) (hr.mono (by decide)) rfl ?_
                        refine ra_cons ?_ ?_
                        · refine re_ix ?_ ?_
                          · refine re_ix ?_ ?_
                            · exact re_var 5
                            · exact re_var 8
                          · exact re_int
                        · refine ra_cons ?_ ?_
                          · refine re_ix ?_ ?_
                            · refine re_ix ?_ ?_
                              · exact re_var 5
                              · exact re_var 8
                            · exact re_int
                          · refine ra_cons ?_ ?_
                            · refine re_ix ?_ ?_
                              · exact re_var 7
                              · exact re_var 8
                            · exact ra_nil
                    · refine rss_one ?_
                      refine rs_ret ?_
                      refine re_tup ?_
                      refine ra_cons ?_ ?_
                      · exact re_var 2
                      · refine ra_cons ?_ ?_
                        · exact re_var 4
                        · refine ra_cons ?_ ?_
                          · exact re_var 5
                          · refine ra_cons ?_ ?_
                            · exact re_var 6
                            · refine ra_cons ?_ ?_
                              · exact re_var 7
                              · exact ra_nil
theorem sc__law_stand : FnScope ["_law_script", "_law_k", "_law_stays", "_law_state_here", "_law_found", "_law_stay", "_law_held"] ["_law_script", "_law_k", "_law_stays"] (defScope (top 42)) := ⟨rfl, rfl, rfl, by decide +kernel, rfl, by decide +kernel, by decide +kernel⟩
theorem k__law_stand (z : Blt mg) (D0 : DefHere K mg "_law_stand" (top 42)) (G__law_state : KnP P w K mg base "_law_state" 1 ["_law_script", "_law_k"] m__law_state) (G__law_digit : KnM P w K mg base "_law_digit" 1 ["_law_state_here", "_law_most"] m__law_digit) : KnP P w K mg base "_law_stand" 2 ["_law_script", "_law_k", "_law_stays"] m__law_stand :=
  known_P (N := ["_law_script", "_law_k", "_law_stays", "_law_state_here", "_law_found", "_law_stay", "_law_held"]) (ps := ["_law_script", "_law_k", "_law_stays"]) (bm := b__law_stand) D0 sc__law_stand (fun _ _ _ _ _ _ us hl => match us, hl with | [_, _, _], _ => rfl) fun f E cdv A outer s H hr => by
  have c := cok_body (P := P) (w := w) (K := K) (mg := mg) (base := base) (qual := "_law_stand") (scope := defScope (top 42)) (f := f) (cdv := cdv) (A := A) (outer := outer) (s := s) (H := H) (E := E) sc__law_stand.nd
  have hu := hr.units
  have hu0 := hr.units0
  have hu65 := room65 hr
  refine rss_cons ?_ ?_
  · refine rs_set 3 c ?_
    refine re_cT G__law_state c (hr.mono (by decide)) rfl ?_
    refine ra_cons ?_ ?_
    · exact re_var 0
    · refine ra_cons ?_ ?_
      · exact re_var 1
      · exact ra_nil
  · refine rss_cons ?_ ?_
    · refine rs_set 4 c ?_
      refine re_lst false ?_
      exact ra_nil
    · refine rss_cons ?_ ?_
      · refine rs_for (vs := [5]) c ?_ ?_ ?_
        · refine ri_seq ?_
          exact re_var 2
        · exact rg_name 5 c
        · refine rss_cons ?_ ?_
          · refine rs_set 6 c ?_
            refine re_cM G__law_digit c (hr.mono (by decide)) rfl ?_
            refine ra_cons ?_ ?_
            · exact re_var 3
            · refine ra_cons ?_ ?_
              · exact re_int
              · exact ra_nil
          · refine rss_cons ?_ ?_
            · refine rs_if ?_ ?_ ?_
              · refine rt_notN ?_
                exact re_var 5
              · refine rss_one ?_
                refine rs_set 6 c ?_
                exact re_var 5
              · exact rss_nil
            · refine rss_one ?_
              refine rs_expr ?_
              refine re_bm .lst PySem.F.plainAttrs_list PySem.F.slot_list_append PySem.F.type_list_append mt_append ms_append ?_ ?_
              · exact re_var 4
              · refine ra_cons ?_ ?_
                · exact re_var 6
                · exact ra_nil
      · refine rss_one ?_
        refine rs_ret ?_
        refine re_callTy call_tuple_ofZ cs_tuple rfl z.tuple bb_tuple ?_
        refine ra_cons ?_ ?_
        · exact re_var 4
        · exact ra_nil
theorem sc__law_old : FnScope ["_law_ties", "_law_one", "_law_other", "_law_found", "_law_tie"] ["_law_ties", "_law_one", "_law_other"] (defScope (top 43)) := ⟨rfl, rfl, rfl, by decide +kernel, rfl, by decide +kernel, by decide +kernel⟩
theorem k__law_old (z : Blt mg) (D0 : DefHere K mg "_law_old" (top 43))  : KnP P w K mg base "_law_old" 1 ["_law_ties", "_law_one", "_law_other"] m__law_old :=
  known_P (N := ["_law_ties", "_law_one", "_law_other", "_law_found", "_law_tie"]) (ps := ["_law_ties", "_law_one", "_law_other"]) (bm := b__law_old) D0 sc__law_old (fun _ _ _ _ _ _ us hl => match us, hl with | [_, _, _], _ => rfl) fun f E cdv A outer s H hr => by
  have c := cok_body (P := P) (w := w) (K := K) (mg := mg) (base := base) (qual := "_law_old") (scope := defScope (top 43)) (f := f) (cdv := cdv) (A := A) (outer := outer) (s := s) (H := H) (E := E) sc__law_old.nd
  have hu := hr.units
  have hu0 := hr.units0
  have hu65 := room65 hr
  refine rss_cons ?_ ?_
  · refine rs_setLc true 3 (own := [("_law_tie", 4)]) c ?_ (by first | exact blkOk_by (N := ["_law_ties", "_law_one", "_law_other", "_law_found", "_law_tie"]) (sc := defScope (top 43)) (by decide +kernel) | exact blkOk_by (by kernel_rfl)) ?_ ?_ ?_
    · refine ri_seq ?_
      exact re_var 0
    · intro _ _ _ _ _
      exact rg_name 4 (cok_blk c)
    · intro _ _ _ _ _
      refine rts_one ?_
      refine rt_cmp (op_eqD hu) os_eq ?_ ?_ (nomark _)
      · refine re_callB cr_sortedIT cs_sortIT rfl z.sorted bb_sorted ?_
        refine ra_cons ?_ ?_
        · refine re_sl true ?_ ro_none ?_
          · exact re_var 4
          · refine ro_some ?_
            exact re_int
        · exact ra_nil
      · refine re_callB cr_sortedI cs_sortI rfl z.sorted bb_sorted ?_
        refine ra_cons ?_ ?_
        · refine re_lst true ?_
          refine ra_cons ?_ ?_
          · exact re_var 1
          · refine ra_cons ?_ ?_
            · exact re_var 2
            · exact ra_nil
        · exact ra_nil
    · intro _ _ _ _ _
      refine re_ix ?_ ?_
      · exact re_var 4
      · exact re_int
  · refine rss_one ?_
    refine rs_ret ?_
    refine re_ix ?_ ?_
    · refine re_bin op_addA os_add ?_ ?_
      · exact re_var 3
      · refine re_lst true ?_
        refine ra_cons ?_ ?_
        · exact re_int
        · exact ra_nil
    · exact re_int
theorem sc__law_for_ones : FnScope ["_law_told", "_law_web", "_law_stand_here", "_law_state_here", "_law_way", "_law_one", "_law_number", "_law_many", "_law_ties", "_law_bars", "_law_stays", "_law_totals", "_law_other", "_law_heavy", "_law_stay", "_law_tie"] ["_law_told", "_law_web", "_law_stand_here", "_law_state_here"] (defScope (top 44)) := ⟨rfl, rfl, rfl, by decide +kernel, rfl, by decide +kernel, by decide +kernel⟩
theorem k__law_for_ones (z : Blt mg) (D0 : DefHere K mg "_law_for_ones" (top 44)) (G__law_digit : KnM P w K mg base "_law_digit" 1 ["_law_state_here", "_law_most"] m__law_digit) (G__law_old : KnP P w K mg base "_law_old" 1 ["_law_ties", "_law_one", "_law_other"] m__law_old) (G_with_tie : KnP P w K mg base "with_tie" 4 ["web", "one", "other", "weight"] m_with_tie) (G_with_bar : KnP P w K mg base "with_bar" 4 ["web", "person", "bar"] m_with_bar) (G_with_stay : KnP P w K mg base "with_stay" 4 ["web", "person", "stay"] m_with_stay) : KnM P w K mg base "_law_for_ones" 5 ["_law_told", "_law_web", "_law_stand_here", "_law_state_here"] m__law_for_ones :=
  known_M (N := ["_law_told", "_law_web", "_law_stand_here", "_law_state_here", "_law_way", "_law_one", "_law_number", "_law_many", "_law_ties", "_law_bars", "_law_stays", "_law_totals", "_law_other", "_law_heavy", "_law_stay", "_law_tie"]) (ps := ["_law_told", "_law_web", "_law_stand_here", "_law_state_here"]) (bm := b__law_for_ones) D0 sc__law_for_ones (fun _ _ _ _ _ _ us hl => match us, hl with | [_, _, _, _], _ => rfl) fun f E cdv A outer s H hr => by
  have c := cok_body (P := P) (w := w) (K := K) (mg := mg) (base := base) (qual := "_law_for_ones") (scope := defScope (top 44)) (f := f) (cdv := cdv) (A := A) (outer := outer) (s := s) (H := H) (E := E) sc__law_for_ones.nd
  have hu := hr.units
  have hu0 := hr.units0
  have hu65 := room65 hr
  refine rss_cons ?_ ?_
  · refine rs_asg (vs := [7, 8, 9, 10, 11]) ?_ ?_
    · exact re_var 0
    · refine rg_tup 5 c ?_
      refine rgs_cons ?_ ?_
      · exact rg_name 7 c
      · refine rgs_cons ?_ ?_
        · exact rg_name 8 c
        · refine rgs_cons ?_ ?_
          · exact rg_name 9 c
          · refine rgs_cons ?_ ?_
            · exact rg_name 10 c
            · refine rgs_cons ?_ ?_
              · exact rg_name 11 c
              · exact rgs_nil
  · refine rss_cons ?_ ?_
    · refine rs_set 4 c ?_
      refine re_cM G__law_digit c (hr.mono (by decide)) rfl ?_
      refine ra_cons ?_ ?_
      · exact re_var 3
      · refine ra_cons ?_ ?_
        · exact re_int
        · exact ra_nil
    · refine rss_cons ?_ ?_
      · refine rs_set 5 c ?_
        refine re_cM G__law_digit c (hr.mono (by decide)) rfl ?_
        refine ra_cons ?_ ?_
        · exact re_var 3
        · refine ra_cons ?_ ?_
          · exact re_var 7
          · exact ra_nil
      · refine rss_cons ?_ ?_
        · refine rs_set 6 c ?_
          refine re_cM G__law_digit c (hr.mono (by decide)) rfl ?_
          refine ra_cons ?_ ?_
          · exact re_var 3
          · refine ra_cons ?_ ?_
            · exact re_int
            · exact ra_nil
        · refine rss_cons ?_ ?_
          · refine rs_if ?_ ?_ ?_
            · refine rt_pw ?_
              refine rw_and ?_ ?_
              · refine rt_cmp (op_eqD hu) os_eq ?_ ?_ (nomark _)
                · exact re_var 4
                · exact re_int
              · refine rw_and1 ?_
                refine rt_cmp op_gt os_gt ?_ ?_ (nomark _)
                · exact re_var 7
                · exact re_int
            · refine rss_cons ?_ ?_
              · refine rs_set 12 c ?_
                refine re_bin op_mod os_mod ?_ ?_
                · refine re_bin op_addA os_add ?_ ?_
                  · refine re_bin op_addA os_add ?_ ?_
                    · exact re_var 5
                    · exact re_int
                  · refine re_cM G__law_digit c (hr.mono (by decide)) rfl ?_
                    refine ra_cons ?_ ?_
                    · exact re_var 3
                    · refine ra_cons ?_ ?_
                      · refine re_bin op_sub os_sub ?_ ?_
                        · exact re_var 7
                        · exact re_int
                      · exact ra_nil
                · exact re_var 7
              · refine rss_cons ?_ ?_
                · refine rs_set 13 c ?_
                  refine re_callB (call_min2 c.calm) cs_min2 rfl z.min bb_min ?_
                  refine ra_cons ?_ ?_
                  · exact re_int
                  · refine ra_cons ?_ ?_
                    · refine re_bin op_addA os_add ?_ ?_
                      · refine re_cP G__law_old c (hr.mono (by decide)) rfl ?_
                        refine ra_cons ?_ ?_
                        · exact re_var 8
                        · refine ra_cons ?_ ?_
                          · exact re_var 5
                          · refine ra_cons ?_ ?_
                            · exact re_var 12
                            · exact ra_nil
                      · exact re_var 6
                    · exact ra_nil
                · refine rss_cons ?_ ?_
                  · refine rs_setLc true 8 (own := [("_law_tie", 15)]) c ?_ (by first | exact blkOk_by (N := ["_law_told", "_law_web", "_law_stand_here", "_law_state_here", "_law_way", "_law_one", "_law_number", "_law_many", "_law_ties", "_law_bars", "_law_stays", "_law_totals", "_law_other", "_law_heavy", "_law_stay", "_law_tie"]) (sc := defScope (top 44)) (by decide +kernel) | exact blkOk_by (by kernel_rfl)) ?_ ?_ ?_
                    · refine ri_seq ?_
                      exact re_var 8
                    · intro _ _ _ _ _
                      exact rg_name 15 (cok_blk c)
                    · intro _ _ _ _ _
                      refine rts_one ?_
                      refine rt_cmp (op_neD hu) os_ne ?_ ?_ (nomark _)
                      · refine re_callB cr_sortedIT cs_sortIT rfl z.sorted bb_sorted ?_
                        refine ra_cons ?_ ?_
                        · refine re_sl true ?_ ro_none ?_
                          · exact re_var 15
                          · refine ro_some ?_
                            exact re_int
                        · exact ra_nil
                      · refine re_callB cr_sortedI cs_sortI rfl z.sorted bb_sorted ?_
                        refine ra_cons ?_ ?_
                        · refine re_lst true ?_
                          refine ra_cons ?_ ?_
                          · exact re_var 5
                          · refine ra_cons ?_ ?_
                            · exact re_var 12
                            · exact ra_nil
                        · exact ra_nil
                    · intro _ _ _ _ _
                      exact re_var 15
                  · refine rss_cons ?_ ?_
                    · refine rs_if ?_ ?_ ?_
                      · refine rt_cmp op_gt os_gt ?_ ?_ (nomark _)
                        · exact re_var 13
                        · exact re_int
                      · refine rss_one ?_
                        refine rs_set 8 c ?_
                        refine re_bin op_addA os_add ?_ ?_
                        · exact re_var 8
                        · refine re_lst true ?_
                          refine ra_cons ?_ ?_
                          · refine re_tup ?_
                            refine ra_cons ?_ ?_
                            · exact re_var 5
                            · refine ra_cons ?_ ?_
                              · exact re_var 12
                              · refine ra_cons ?_ ?_
                                · exact re_var 13
                                · exact ra_nil
                          · exact ra_nil
                      · exact rss_nil
                    · refine rss_one ?_
                      refine rs_set 1 c ?_
                      refine re_cP G_with_tie c (hr.mono (by decide)) rfl ?_
                      refine ra_cons ?_ ?_
                      · exact re_var 1
                      · refine ra_cons ?_ ?_
                        · exact re_var 5
                        · refine ra_cons ?_ ?_
                          · exact re_var 12
                          · refine ra_cons ?_ ?_
                            · exact re_var 13
                            · exact ra_nil
            · refine rss_one ?_
              refine rs_if ?_ ?_ ?_
              · refine rt_cmp (op_eqD hu) os_eq ?_ ?_ (nomark _)
                · exact re_var 4
                · exact re_int
              · refine rss_cons ?_ ?_
                · refine rs_set 9 c ?_
                  refine re_bin op_addA os_add ?_ ?_
                  · refine re_bin op_addA os_add ?_ ?_
                    · refine re_sl true ?_ ro_none ?_
                      · exact re_var 9
                      · refine ro_some ?_
                        exact re_var 5
                    · refine re_lst true ?_
                      refine ra_cons ?_ ?_
                      · refine re_bin op_sub os_sub ?_ ?_
                        · refine re_ix ?_ ?_
                          · exact re_var 9
                          · exact re_var 5
                        · exact re_var 6
                      · exact ra_nil
                  · refine re_sl true ?_ ?_ ro_none
                    · exact re_var 9
                    · refine ro_some ?_
                      refine re_bin op_addA os_add ?_ ?_
                      · exact re_var 5
                      · exact re_int
                · refine rss_one ?_
                  refine rs_set 1 c ?_
                  refine re_cP G_with_bar c (hr.mono (by decide)) rfl ?_
                  refine ra_cons ?_ ?_
                  · exact re_var 1
                  · refine ra_cons ?_ ?_
                    · exact re_var 5
                    · refine ra_cons ?_ ?_
                      · refine re_ix ?_ ?_
                        · exact re_var 9
                        · exact re_var 5
                      · exact ra_nil
              · refine rss_cons ?_ ?_
                · refine rs_set 14 c ?_
                  refine re_ix ?_ ?_
                  · refine re_lst true ?_
                    refine ra_cons ?_ ?_
                    · exact re_int
                    · refine ra_cons ?_ ?_
                      · exact re_non
                      · exact ra_nil
                  · refine re_callTy call_int1 cs_int rfl z.int bb_int ?_
                    refine ra_cons ?_ ?_
                    · refine re_cmp (op_eqD hu) os_eq ?_ ?_ (nomark _)
                      · refine re_ix ?_ ?_
                        · exact re_var 10
                        · exact re_var 5
                      · exact re_int
                    · exact ra_nil
                · refine rss_cons ?_ ?_
                  · refine rs_set 10 c ?_
                    refine re_bin op_addA os_add ?_ ?_
                    · refine re_bin op_addA os_add ?_ ?_
                      · refine re_sl true ?_ ro_none ?_
                        · exact re_var 10
                        · refine ro_some ?_
                          exact re_var 5
                      · refine re_lst true ?_
                        refine ra_cons ?_ ?_
                        · exact re_var 14
                        · exact ra_nil
                    · refine re_sl true ?_ ?_ ro_none
                      · exact re_var 10
                      · refine ro_some ?_
                        refine re_bin op_addA os_add ?_ ?_
                        · exact re_var 5
                        · exact re_int
                  · refine rss_cons ?_ ?_
                    · refine rs_set 1 c ?_
                      refine re_cP G_with_stay c (hr.mono (by decide)) rfl ?_
                      refine ra_cons ?_ ?_
                      · exact re_var 1
                      · refine ra_cons ?_ ?_
                        · exact re_var 5
                        · refine ra_cons ?_ ?_
                          · exact re_var 14
                          · exact ra_nil
                    · refine rss_one ?_
                      refine rs_if ?_ ?_ ?_
                      · refine rt_cmp (op_eqD hu) os_eq ?_ ?_ (nomark _)
                        · exact re_var 14
                        · exact re_int
                      · refine rss_one ?_
                        refine rs_set 2 c ?_
                        refine re_bin op_addA os_add ?_ ?_
                        · refine re_bin op_addA os_add ?_ ?_
                          · refine re_sl true ?_ ro_none ?_
                            · exact re_var 2
                            · refine ro_some ?_
                              exact re_var 5
                          · refine re_tup ?_
                            refine ra_cons ?_ ?_
                            · exact re_int
                            · exact ra_nil
                        · refine re_sl true ?_ ?_ ro_none
                          · exact re_var 2
                          · refine ro_some ?_
                            refine re_bin op_addA os_add ?_ ?_
                            · exact re_var 5
                            · exact re_int
                      · exact rss_nil
          · refine rss_one ?_
            refine rs_ret ?_
            refine re_tup ?_
            refine ra_cons ?_ ?_
            · refine re_tup ?_
              refine ra_cons ?_ ?_
              · exact re_var 7
              · refine ra_cons ?_ ?_
                · exact re_var 8
                · refine ra_cons ?_ ?_
                  · exact re_var 9
                  · refine ra_cons ?_ ?_
                    · exact re_var 10
                    · refine ra_cons ?_ ?_
                      · exact re_var 11
                      · exact ra_nil
            · refine ra_cons ?_ ?_
              · exact re_var 1
              · refine ra_cons ?_ ?_
                · exact re_var 2
                · exact ra_nil
theorem sc__law_apart : FnScope ["_law_web", "_law_stand_here", "_law_other", "_law_beyond", "_law_turns", "_law_found", "_law_number", "_law_one"] ["_law_web", "_law_stand_here", "_law_other", "_law_beyond", "_law_turns"] (defScope (top 45)) := ⟨rfl, rfl, rfl, by decide +kernel, rfl, by decide +kernel, by decide +kernel⟩
theorem k__law_apart (z : Blt mg) (D0 : DefHere K mg "_law_apart" (top 45)) (G_turn : KnP P w K mg base "turn" 5 ["web", "stand"] m_turn) : KnP P w K mg base "_law_apart" 6 ["_law_web", "_law_stand_here", "_law_other", "_law_beyond", "_law_turns"] m__law_apart :=
  known_P (N := ["_law_web", "_law_stand_here", "_law_other", "_law_beyond", "_law_turns", "_law_found", "_law_number", "_law_one"]) (ps := ["_law_web", "_law_stand_here", "_law_other", "_law_beyond", "_law_turns"]) (bm := b__law_apart) D0 sc__law_apart (fun _ _ _ _ _ _ us hl => match us, hl with | [_, _, _, _, _], _ => rfl) fun f E cdv A outer s H hr => by
  have c := cok_body (P := P) (w := w) (K := K) (mg := mg) (base := base) (qual := "_law_apart") (scope := defScope (top 45)) (f := f) (cdv := cdv) (A := A) (outer := outer) (s := s) (H := H) (E := E) sc__law_apart.nd
  have hu := hr.units
  have hu0 := hr.units0
  have hu65 := room65 hr
  refine rss_cons ?_ ?_
  · refine rs_set 5 c ?_
    refine re_lst false ?_
    exact ra_nil
  · refine rss_cons ?_ ?_
    · refine rs_for (vs := [6]) c ?_ ?_ ?_
      · refine ri_range1 rfl z.range ?_
        refine ra_cons ?_ ?_
        · refine re_bin op_addA os_add ?_ ?_
          · exact re_var 4
          · exact re_int
        · exact ra_nil
      · exact rg_name 6 c
      · refine rss_cons ?_ ?_
        · refine rs_for (vs := [7]) c ?_ ?_ ?_
          · refine ri_range1 rfl z.range ?_
            refine ra_cons ?_ ?_
            · refine re_callB call_lenA cs_len rfl z.len bb_len ?_
              refine ra_cons ?_ ?_
              · exact re_var 1
              · exact ra_nil
            · exact ra_nil
          · exact rg_name 7 c
          · refine rss_cons ?_ ?_
            · refine rs_if ?_ ?_ ?_
              · refine rt_cmp op_gt os_gt ?_ ?_ (nomark _)
                · refine re_ix ?_ ?_
                  · exact re_var 1
                  · exact re_var 7
                · refine re_ix ?_ ?_
                  · exact re_var 3
                  · exact re_var 7
              · refine rss_one ?_
                refine rs_ret ?_
                exact re_non
              · exact rss_nil
            · refine rss_one ?_
              refine rs_if ?_ ?_ ?_
              · refine rt_cmp (op_neD hu) os_ne ?_ ?_ (nomark _)
                · refine re_ix ?_ ?_
                  · exact re_var 1
                  · exact re_var 7
                · refine re_ix ?_ ?_
                  · exact re_var 3
                  · exact re_var 7
              · refine rss_one ?_
                refine rs_expr ?_
                refine re_bm .lst PySem.F.plainAttrs_list PySem.F.slot_list_append PySem.F.type_list_append mt_append ms_append ?_ ?_
                · exact re_var 5
                · refine ra_cons ?_ ?_
                  · refine re_tup ?_
                    refine ra_cons ?_ ?_
                    · exact re_var 6
                    · refine ra_cons ?_ ?_
                      · exact re_var 7
                      · exact ra_nil
                  · exact ra_nil
              · exact rss_nil
        · refine rss_cons ?_ ?_
          · refine rs_set 1 c ?_
            refine re_cP G_turn c (hr.mono (by decide)) rfl ?_
            refine ra_cons ?_ ?_
            · exact re_var 0
            · refine ra_cons ?_ ?_
              · exact re_var 1
              · exact ra_nil
          · refine rss_one ?_
            refine rs_set 3 c ?_
            refine re_cP G_turn c (hr.mono (by decide)) rfl ?_
            refine ra_cons ?_ ?_
            · exact re_var 2
            · refine ra_cons ?_ ?_
              · exact re_var 3
              · exact ra_nil
    · refine rss_one ?_
      refine rs_ret ?_
      exact re_var 5
theorem sc_law : FnScope ["_law_script", "_law_told", "_law_web", "_law_stand_here", "_law_state_here", "_law_turns", "_law_webs", "_law_k", "_law_rows", "_law_first", "_law_middle", "_law_last", "_law_one", "_law_other", "_law_due", "_law_found", "_law_turned_ones"] ["_law_script"] (defScope (top 46)) := ⟨rfl, rfl, rfl, by decide +kernel, rfl, by decide +kernel, by decide +kernel⟩
theorem ok_law (z : Blt mg) {f : Addr} {fd : FuncData} (F : FunD K "law" "law" (defArgs (top 46)) (defBody (top 46)) (defScope (top 46)) [] [] f fd) (G__law_people : KnP P w K mg base "_law_people" 2 ["_law_script"] m__law_people) (G_web_of : KnP P w K mg base "web_of" 5 ["many", "ties", "bars", "stays"] m_web_of) (G__law_stand : KnP P w K mg base "_law_stand" 2 ["_law_script", "_law_k", "_law_stays"] m__law_stand) (G__law_state : KnP P w K mg base "_law_state" 1 ["_law_script", "_law_k"] m__law_state) (G__law_digit : KnM P w K mg base "_law_digit" 1 ["_law_state_here", "_law_most"] m__law_digit) (G__law_for_ones : KnM P w K mg base "_law_for_ones" 5 ["_law_told", "_law_web", "_law_stand_here", "_law_state_here"] m__law_for_ones) (G__law_apart : KnP P w K mg base "_law_apart" 6 ["_law_web", "_law_stand_here", "_law_other", "_law_beyond", "_law_turns"] m__law_apart) (G_differ : KnP P w K mg base "differ" 7 ["web", "stand", "other", "beyond", "turns"] m_differ) (G_exchanged_stand : KnP P w K mg base "exchanged_stand" 2 ["stand"] m_exchanged_stand) (G_exchanged : KnP P w K mg base "exchanged" 3 ["web"] m_exchanged) : FnOk P w K mg base (L2.CX P w) 8 f fd ["_law_script"] (spP K mg m_law 1) :=
  fn_okP (N := ["_law_script", "_law_told", "_law_web", "_law_stand_here", "_law_state_here", "_law_turns", "_law_webs", "_law_k", "_law_rows", "_law_first", "_law_middle", "_law_last", "_law_one", "_law_other", "_law_due", "_law_found", "_law_turned_ones"]) (ps := ["_law_script"]) (bm := b_law) F sc_law fun E cdv A outer s H hr => by
  have c := cok_body (P := P) (w := w) (K := K) (mg := mg) (base := base) (qual := "law") (scope := defScope (top 46)) (f := f) (cdv := cdv) (A := A) (outer := outer) (s := s) (H := H) (E := E) sc_law.nd
  have hu := hr.units
  have hu0 := hr.units0
  have hu65 := room65 hr
  refine rss_cons ?_ ?_
  · refine rs_set 1 c ?_
    refine re_cP G__law_people c (hr.mono (by decide)) rfl ?_
    refine ra_cons ?_ ?_
    · exact re_var 0
    · exact ra_nil
  · refine rss_cons ?_ ?_
    · refine rs_set 2 c ?_
      refine re_cP G_web_of c (hr.mono (by decide)) rfl ?_
      refine ra_cons ?_ ?_
      · refine re_ix ?_ ?_
        · exact re_var 1
        · exact re_int
      · refine ra_cons ?_ ?_
        · refine re_callTy call_list_of cs_list rfl z.list bb_list ?_
          refine ra_cons ?_ ?_
          · refine re_ix ?_ ?_
            · exact re_var 1
            · exact re_int
          · exact ra_nil
        · refine ra_cons ?_ ?_
          · refine re_callTy call_list_of cs_list rfl z.list bb_list ?_
            refine ra_cons ?_ ?_
            · refine re_ix ?_ ?_
              · exact re_var 1
              · exact re_int
            · exact ra_nil
          · refine ra_cons ?_ ?_
            · refine re_callTy call_list_of cs_list rfl z.list bb_list ?_
              refine ra_cons ?_ ?_
              · refine re_ix ?_ ?_
                · exact re_var 1
                · exact re_int
              · exact ra_nil
            · exact ra_nil
    · refine rss_cons ?_ ?_
      · refine rs_set 3 c ?_
        refine re_cP G__law_stand c (hr.mono (by decide)) rfl ?_
        refine ra_cons ?_ ?_
        · exact re_var 0
        · refine ra_cons ?_ ?_
          · exact re_int
          · refine ra_cons ?_ ?_
            · refine re_ix ?_ ?_
              · exact re_var 1
              · exact re_int
            · exact ra_nil
      · refine rss_cons ?_ ?_
        · refine rs_set 4 c ?_
          refine re_cT G__law_state c (hr.mono (by decide)) rfl ?_
          refine ra_cons ?_ ?_
          · exact re_var 0
          · refine ra_cons ?_ ?_
            · exact re_int
            · exact ra_nil
        · refine rss_cons ?_ ?_
          · refine rs_set 5 c ?_
            refine re_cM G__law_digit c (hr.mono (by decide)) rfl ?_
            refine ra_cons ?_ ?_
            · exact re_var 4
            · refine ra_cons ?_ ?_
              · exact re_int
              · exact ra_nil
          · refine rss_cons ?_ ?_
            · refine rs_set 6 c ?_
              refine re_lst false ?_
              refine ra_cons ?_ ?_
              · refine re_tup ?_
                refine ra_cons ?_ ?_
                · exact re_var 2
                · refine ra_cons ?_ ?_
                  · exact re_var 3
                  · exact ra_nil
              · exact ra_nil
            · refine rss_cons ?_ ?_
              · refine rs_for (vs := [7]) c ?_ ?_ ?_
                · refine ri_range1 rfl z.range ?_
                  refine ra_cons ?_ ?_
                  · refine re_bin op_addA os_add ?_ ?_
                    · exact re_int
                    · refine re_cM G__law_digit c (hr.mono (by decide)) rfl ?_
                      refine ra_cons ?_ ?_
                      · exact re_var 4
                      · refine ra_cons ?_ ?_
                        · exact re_int
                        · exact ra_nil
                  · exact ra_nil
                · exact rg_name 7 c
                · refine rss_cons ?_ ?_
                  · refine rs_asg (vs := [1, 2, 3]) ?_ ?_
                    · refine re_cM G__law_for_ones c (hr.mono (by decide)) rfl ?_
                      refine ra_cons ?_ ?_
                      · exact re_var 1
                      · refine ra_cons ?_ ?_
                        · exact re_var 2
                        · refine ra_cons ?_ ?_
                          · exact re_var 3
                          · refine ra_cons ?_ ?_
                            · refine re_cT G__law_state c (hr.mono (by decide)) rfl ?_
                              refine ra_cons ?_ ?_
                              · exact re_var 0
                              · refine ra_cons ?_ ?_
                                · refine re_bin op_addA os_add ?_ ?_
                                  · exact re_int
                                  · exact re_var 7
                                · exact ra_nil
                            · exact ra_nil
                    · refine rg_tup 3 c ?_
                      refine rgs_cons ?_ ?_
                      · exact rg_name 1 c
                      · refine rgs_cons ?_ ?_
                        · exact rg_name 2 c
                        · refine rgs_cons ?_ ?_
                          · exact rg_name 3 c
                          · exact rgs_nil
                  · refine rss_cons ?_ ?_
                    · refine rs_expr ?_
                      refine re_bm .lst PySem.F.plainAttrs_list PySem.F.slot_list_append PySem.F.type_list_append mt_append ms_append ?_ ?_
                      · exact re_var 6
                      · refine ra_cons ?_ ?_
                        · refine re_tup ?_
                          refine ra_cons ?_ ?_
                          · exact re_var 2
                          · refine ra_cons ?_ ?_
                            · exact re_var 3
                            · exact ra_nil
                        · exact ra_nil
                    · refine rss_one ?_
                      refine rs_if ?_ ?_ ?_
                      · refine rt_cmp (op_neD hu) os_ne ?_ ?_ (nomark _)
                        · exact re_var 2
                        · refine re_cP G_web_of c (hr.mono (by decide)) rfl ?_
                          refine ra_cons ?_ ?_
                          · refine re_ix ?_ ?_
                            · exact re_var 1
                            · exact re_int
                          · refine ra_cons ?_ ?_
                            · refine re_callTy call_list_of cs_list rfl z.list bb_list ?_
                              refine ra_cons ?_ ?_
                              · refine re_ix ?_ ?_
                                · exact re_var 1
                                · exact re_int
                              · exact ra_nil
                            · refine ra_cons ?_ ?_
                              · refine re_callTy call_list_of cs_list rfl z.list bb_list ?_
                                refine ra_cons ?_ ?_
                                · refine re_ix ?_ ?_
                                  · exact re_var 1
                                  · exact re_int
                                · exact ra_nil
                              · refine ra_cons ?_ ?_
                                · refine re_callTy call_list_of cs_list rfl z.list bb_list ?_
                                  refine ra_cons ?_ ?_
                                  · refine re_ix ?_ ?_
                                    · exact re_var 1
                                    · exact re_int
                                  · exact ra_nil
                                · exact ra_nil
                      · refine rss_one ?_
                        refine rs_ret ?_
                        exact re_bl
                      · exact rss_nil
              · refine rss_cons ?_ ?_
                · refine rs_par3 9 10 11 c ?_
                  refine ra_cons ?_ ?_
                  · refine re_ix ?_ ?_
                    · exact re_var 6
                    · exact re_int
                  · refine ra_cons ?_ ?_
                    · refine re_ix ?_ ?_
                      · exact re_var 6
                      · refine re_bin op_fdivW os_fdiv ?_ ?_
                        · refine re_callB call_lenA cs_len rfl z.len bb_len ?_
                          refine ra_cons ?_ ?_
                          · exact re_var 6
                          · exact ra_nil
                        · exact re_int
                    · refine ra_cons ?_ ?_
                      · refine re_ix ?_ ?_
                        · exact re_var 6
                        · refine re_un un_neg us_neg ?_
                          exact re_int
                      · exact ra_nil
                · refine rss_cons ?_ ?_
                  · refine rs_set 8 c ?_
                    refine re_lst false ?_
                    exact ra_nil
                  · refine rss_cons ?_ ?_
                    · refine rs_for (vs := [12, 13]) c ?_ ?_ ?_
                      · refine ri_seq ?_
                        refine re_tup ?_
                        refine ra_cons ?_ ?_
                        · refine re_tup ?_
                          refine ra_cons ?_ ?_
                          · exact re_var 9
                          · refine ra_cons ?_ ?_
                            · exact re_var 10
                            · exact ra_nil
                        · refine ra_cons ?_ ?_
                          · refine re_tup ?_
                            refine ra_cons ?_ ?_
                            · exact re_var 10
                            · refine ra_cons ?_ ?_
                              · exact re_var 11
                              · exact ra_nil
                          · refine ra_cons ?_ ?_
                            · refine re_tup ?_
                              refine ra_cons ?_ ?_
                              · exact re_var 9
                              · refine ra_cons ?_ ?_
                                · exact re_var 11
                                · exact ra_nil
                            · exact ra_nil
                      · refine rg_tup 2 c ?_
                        refine rgs_cons ?_ ?_
                        · exact rg_name 12 c
                        · refine rgs_cons ?_ ?_
                          · exact rg_name 13 c
                          · exact rgs_nil
                      · refine rss_cons ?_ ?_
                        · refine rs_set 14 c ?_
                          refine re_cP G__law_apart c (hr.mono (by decide)) rfl ?_
                          refine ra_cons ?_ ?_
                          · refine re_ix ?_ ?_
                            · exact re_var 12
                            · exact re_int
                          · refine ra_cons ?_ ?_
                            · refine re_ix ?_ ?_
                              · exact re_var 12
                              · exact re_int
                            · refine ra_cons ?_ ?_
                              · refine re_ix ?_ ?_
                                · exact re_var 13
                                · exact re_int
                              · refine ra_cons ?_ ?_
                                · refine re_ix ?_ ?_
                                  · exact re_var 13
                                  · exact re_int
                                · refine ra_cons ?_ ?_
                                  · exact re_var 5
                                  · exact ra_nil
                        · refine rss_cons ?_ ?_
                          · refine rs_set 15 c ?_
                            refine re_cP G_differ c (hr.mono (by decide)) rfl ?_
                            refine ra_cons ?_ ?_
                            · refine re_ix ?_ ?_
                              · exact re_var 12
                              · exact re_int
                            · refine ra_cons ?_ ?_
                              · refine re_ix ?_ ?_
                                · exact re_var 12
                                · exact re_int
                              · refine ra_cons ?_ ?_
                                · refine re_ix ?_ ?_
                                  · exact re_var 13
                                  · exact re_int
                                · refine ra_cons ?_ ?_
                                  · refine re_ix ?_ ?_
                                    · exact re_var 13
                                    · exact re_int
                                  · refine ra_cons ?_ ?_
                                    · exact re_var 5
                                    · exact ra_nil
                          · refine rss_cons ?_ ?_
                            · refine rs_if ?_ ?_ ?_
                              · refine rt_pw ?_
                                refine rw_or ?_ ?_
                                · refine rt_isN ?_
                                  exact re_var 14
                                · refine rw_or1 ?_
                                  refine rt_cmp (op_neD hu) os_ne ?_ ?_ (nomark _)
                                  · exact re_var 15
                                  · exact re_var 14
                              · refine rss_one ?_
                                refine rs_ret ?_
                                exact re_bl
                              · exact rss_nil
                            · refine rss_cons ?_ ?_
                              · refine rs_expr ?_
                                refine re_bm .lst PySem.F.plainAttrs_list PySem.F.slot_list_append PySem.F.type_list_append mt_append ms_append ?_ ?_
                                · exact re_var 8
                                · refine ra_cons ?_ ?_
                                  · exact re_var 15
                                  · exact ra_nil
                              · refine rss_cons ?_ ?_
                                · refine rs_set 16 c ?_
                                  refine re_tup ?_
                                  refine ra_cons ?_ ?_
                                  · refine re_cP G_exchanged c (hr.mono (by decide)) rfl ?_
                                    refine ra_cons ?_ ?_
                                    · refine re_ix ?_ ?_
                                      · exact re_var 12
                                      · exact re_int
                                    · exact ra_nil
                                  · refine ra_cons ?_ ?_
                                    · refine re_cP G_exchanged_stand c (hr.mono (by decide)) rfl ?_
                                      refine ra_cons ?_ ?_
                                      · refine re_ix ?_ ?_
                                        · exact re_var 12
                                        · exact re_int
                                      · exact ra_nil
                                    · exact ra_nil
                                · refine rss_one ?_
                                  refine rs_if ?_ ?_ ?_
                                  · refine rt_cmp (op_neD hu) os_ne ?_ ?_ (nomark _)
                                    · refine re_cP G_differ c (hr.mono (by decide)) rfl ?_
                                      refine ra_cons ?_ ?_
                                      · refine re_cP G_exchanged c (hr.mono (by decide)) rfl ?_
                                        refine ra_cons ?_ ?_
                                        · refine re_ix ?_ ?_
                                          · exact re_var 13
                                          · exact re_int
                                        · exact ra_nil
                                      · refine ra_cons ?_ ?_
                                        · refine re_cP G_exchanged_stand c (hr.mono (by decide)) rfl ?_
                                          refine ra_cons ?_ ?_
                                          · refine re_ix ?_ ?_
                                            · exact re_var 13
                                            · exact re_int
                                          · exact ra_nil
                                        · refine ra_cons ?_ ?_
                                          · refine re_ix ?_ ?_
                                            · exact re_var 16
                                            · exact re_int
                                          · refine ra_cons ?_ ?_
                                            · refine re_ix ?_ ?_
                                              · exact re_var 16
                                              · exact re_int
                                            · refine ra_cons ?_ ?_
                                              · exact re_var 5
                                              · exact ra_nil
                                    · exact re_var 14
                                  · refine rss_one ?_
                                    refine rs_ret ?_
                                    exact re_bl
                                  · exact rss_nil
                    · refine rss_one ?_
                      refine rs_ret ?_
                      refine re_cmp (op_eqD hu) os_eq ?_ ?_ (nomark _)
                      · refine re_sortW c.calm hu rfl z.sorted rfl z.set ?_
                        refine re_bin op_addA os_add ?_ ?_
                        · refine re_ix ?_ ?_
                          · exact re_var 8
                          · exact re_int
                        · refine re_ix ?_ ?_
                          · exact re_var 8
                          · exact re_int
                      · refine re_ix ?_ ?_
                        · exact re_var 8
                        · exact re_int

end
end R
namespace R
open PySem PySem.Spec PyProof.Rows L2
def d_is_whole : He.DefD := ⟨("is_whole", none), "is_whole", "is_whole", defArgs (top 8), defBody (top 8), defScope (top 8), [], []⟩
def d_is_among : He.DefD := ⟨("is_among", none), "is_among", "is_among", defArgs (top 9), defBody (top 9), defScope (top 9), [], []⟩
def d_is_stay : He.DefD := ⟨("is_stay", none), "is_stay", "is_stay", defArgs (top 10), defBody (top 10), defScope (top 10), [], []⟩
def d_look_at_tie : He.DefD := ⟨("look_at_tie", none), "look_at_tie", "look_at_tie", defArgs (top 11), defBody (top 11), defScope (top 11), [], []⟩
def d_ties_of : He.DefD := ⟨("ties_of", none), "ties_of", "ties_of", defArgs (top 12), defBody (top 12), defScope (top 12), [], []⟩
def d_told_of : He.DefD := ⟨("told_of", none), "told_of", "told_of", defArgs (top 13), defBody (top 13), defScope (top 13), [], []⟩
def d_sum_of : He.DefD := ⟨("sum_of", none), "sum_of", "sum_of", defArgs (top 14), defBody (top 14), defScope (top 14), [], []⟩
def d_web_of : He.DefD := ⟨("web_of", none), "web_of", "web_of", defArgs (top 15), defBody (top 15), defScope (top 15), [], []⟩
def d_weights_of : He.DefD := ⟨("weights_of", none), "weights_of", "weights_of", defArgs (top 16), defBody (top 16), defScope (top 16), [], []⟩
def d_fits : He.DefD := ⟨("fits", none), "fits", "fits", defArgs (top 18), defBody (top 18), defScope (top 18), [], []⟩
def d_ask_stand : He.DefD := ⟨("ask_stand", none), "ask_stand", "ask_stand", defArgs (top 19), defBody (top 19), defScope (top 19), [], []⟩
def d_pulled : He.DefD := ⟨("pulled", none), "pulled", "pulled", defArgs (top 20), defBody (top 20), defScope (top 20), [], []⟩
def d_turned : He.DefD := ⟨("turned", none), "turned", "turned", defArgs (top 21), defBody (top 21), defScope (top 21), [], []⟩
def d_turn : He.DefD := ⟨("turn", none), "turn", "turn", defArgs (top 22), defBody (top 22), defScope (top 22), [], []⟩
def d_history : He.DefD := ⟨("history", none), "history", "history", defArgs (top 25), defBody (top 25), defScope (top 25), [], []⟩
def d_ask_person : He.DefD := ⟨("ask_person", none), "ask_person", "ask_person", defArgs (top 27), defBody (top 27), defScope (top 27), [], []⟩
def d_put_at : He.DefD := ⟨("put_at", none), "put_at", "put_at", defArgs (top 28), defBody (top 28), defScope (top 28), [], []⟩
def d_tied_to : He.DefD := ⟨("tied_to", none), "tied_to", "tied_to", defArgs (top 29), defBody (top 29), defScope (top 29), [], []⟩
def d_with_tie : He.DefD := ⟨("with_tie", none), "with_tie", "with_tie", defArgs (top 30), defBody (top 30), defScope (top 30), [], []⟩
def d_with_bar : He.DefD := ⟨("with_bar", none), "with_bar", "with_bar", defArgs (top 31), defBody (top 31), defScope (top 31), [], []⟩
def d_with_stay : He.DefD := ⟨("with_stay", none), "with_stay", "with_stay", defArgs (top 32), defBody (top 32), defScope (top 32), [], []⟩
def d_differ : He.DefD := ⟨("differ", none), "differ", "differ", defArgs (top 33), defBody (top 33), defScope (top 33), [], []⟩
def d_other_of : He.DefD := ⟨("other_of", none), "other_of", "other_of", defArgs (top 34), defBody (top 34), defScope (top 34), [], []⟩
def d_exchanged_stand : He.DefD := ⟨("exchanged_stand", none), "exchanged_stand", "exchanged_stand", defArgs (top 35), defBody (top 35), defScope (top 35), [], []⟩
def d_exchanged : He.DefD := ⟨("exchanged", none), "exchanged", "exchanged", defArgs (top 36), defBody (top 36), defScope (top 36), [], []⟩
def d__law_state : He.DefD := ⟨("_law_state", none), "_law_state", "_law_state", defArgs (top 38), defBody (top 38), defScope (top 38), [], []⟩
def d__law_digit : He.DefD := ⟨("_law_digit", none), "_law_digit", "_law_digit", defArgs (top 39), defBody (top 39), defScope (top 39), [], []⟩
def d__law_bar : He.DefD := ⟨("_law_bar", none), "_law_bar", "_law_bar", defArgs (top 40), defBody (top 40), defScope (top 40), [], []⟩
def d__law_people : He.DefD := ⟨("_law_people", none), "_law_people", "_law_people", defArgs (top 41), defBody (top 41), defScope (top 41), [], []⟩
def d__law_stand : He.DefD := ⟨("_law_stand", none), "_law_stand", "_law_stand", defArgs (top 42), defBody (top 42), defScope (top 42), [], []⟩
def d__law_old : He.DefD := ⟨("_law_old", none), "_law_old", "_law_old", defArgs (top 43), defBody (top 43), defScope (top 43), [], []⟩
def d__law_for_ones : He.DefD := ⟨("_law_for_ones", none), "_law_for_ones", "_law_for_ones", defArgs (top 44), defBody (top 44), defScope (top 44), [], []⟩
def d__law_apart : He.DefD := ⟨("_law_apart", none), "_law_apart", "_law_apart", defArgs (top 45), defBody (top 45), defScope (top 45), [], []⟩
def d_law : He.DefD := ⟨("law", none), "law", "law", defArgs (top 46), defBody (top 46), defScope (top 46), [], []⟩
def hfn : List He.DefD := ([d_is_whole, d_is_among, d_is_stay, d_look_at_tie, d_ties_of, d_told_of, d_sum_of, d_web_of, d_weights_of, d_fits, d_ask_stand, d_pulled, d_turned, d_turn, d_history, d_ask_person, d_put_at, d_tied_to, d_with_tie, d_with_bar, d_with_stay, d_differ, d_other_of, d_exchanged_stand, d_exchanged, d__law_state, d__law_digit, d__law_bar, d__law_people, d__law_stand] : List He.DefD) ++ ([d__law_old, d__law_for_ones, d__law_apart, d_law] : List He.DefD)
def hfa : List He.Fa := ([.glo "is_whole", .glo "is_among", .glo "is_stay", .glo "look_at_tie", .glo "ties_of", .glo "told_of", .glo "sum_of", .glo "web_of", .glo "weights_of", .glo "fits", .glo "ask_stand", .glo "pulled", .glo "turned", .glo "turn", .glo "history", .glo "ask_person", .glo "put_at", .glo "tied_to", .glo "with_tie", .glo "with_bar", .glo "with_stay", .glo "differ", .glo "other_of", .glo "exchanged_stand", .glo "exchanged", .glo "_law_state", .glo "_law_digit", .glo "_law_bar", .glo "_law_people", .glo "_law_stand"] : List He.Fa) ++ ([.glo "_law_old", .glo "_law_for_ones", .glo "_law_apart", .glo "law", .glo "NoWeb", .exc "NoWeb", .glo "NoStand", .exc "NoStand", .glo "TooLong", .exc "TooLong", .free "isinstance", .free "int", .free "bool", .free "tuple", .free "list", .free "str", .free "dict", .free "len", .free "sum", .free "range", .free "sorted", .free "zip", .free "enumerate", .free "all", .free "any", .free "max", .free "min", .free "abs", .free "repr", .free "set"] : List He.Fa) ++ ([.free "ValueError", .int "MOST_WEIGHT" 400, .int "MOST_PEOPLE" 30, .int "MOST_TURNS" 400] : List He.Fa)
abbrev HR : PySem.W.OpenRow := PySem.W.OpenLaw.row PySem.Challenge.rw_followmost_k47_whole_changes_for_ones
abbrev hk : PySem.W.Hook := He.hookD 4 hfa hfn
def hob (s : PySem.W.SharedT) : He.AlD := He.obsDG 4 hfa hfn (HandSHeadRun.getT s)
theorem hob_eq (s : PySem.W.SharedT) : hob s = hk.obs s.abs := He.obsDG_eq (HandSHeadRun.getT_eq s)
theorem hrun (w : World) : HandSHeadRun.RunEq HR (PySem.W.view HR.prog [46]) hk hob 20000 ((["MostError", "NoWeb", "NoStand", "TooLong", "is_whole", "is_among", "is_stay", "look_at_tie", "ties_of", "told_of", "sum_of", "web_of", "weights_of", "fits", "ask_stand", "pulled", "turned", "turn", "history", "ask_person", "put_at", "tied_to", "with_tie", "with_bar", "with_stay", "differ", "other_of", "exchanged_stand", "exchanged", "_law_state"] : List Str) ++ (["_law_digit", "_law_bar", "_law_people", "_law_stand", "_law_old", "_law_for_ones", "_law_apart", "MOST_PEOPLE", "MOST_WEIGHT", "MOST_TURNS"] : List Str)) w := by
  intro os
  kernel_rfl
theorem hfacts {P : Program} {w : World} {K : PySem.W.Frag} {h : Heap} {mg : Str → Option Value} {fa : Addr} (X : K.In h) (G : h.Ns mainGlobals mg) (hfa0 : mg ("law" : Str) = some (.ref fa)) (c : He.SaysD hfa hfn K) :
    ∃ fd : FuncData, (∀ (s : Shared) (v : Value), BindsTo s fd ⟨[v], []⟩ [("_law_script", v)]) ∧ ∀ base : Heap, K.In base → base.Ns mainGlobals mg → FnOk P w K mg base (L2.CX P w) 8 fa fd ["_law_script"] (spP K mg m_law 1) := by
  have D_is_whole : DefHere K mg "is_whole" (top 8) := let ⟨fd, F⟩ := c.def_ 0 (d := d_is_whole) rfl; ⟨_, fd, He.glo_ok X G (c.fact 0 (f := .glo "is_whole") rfl), F⟩
  have D_is_among : DefHere K mg "is_among" (top 9) := let ⟨fd, F⟩ := c.def_ 1 (d := d_is_among) rfl; ⟨_, fd, He.glo_ok X G (c.fact 1 (f := .glo "is_among") rfl), F⟩
  have D_is_stay : DefHere K mg "is_stay" (top 10) := let ⟨fd, F⟩ := c.def_ 2 (d := d_is_stay) rfl; ⟨_, fd, He.glo_ok X G (c.fact 2 (f := .glo "is_stay") rfl), F⟩
  have D_look_at_tie : DefHere K mg "look_at_tie" (top 11) := let ⟨fd, F⟩ := c.def_ 3 (d := d_look_at_tie) rfl; ⟨_, fd, He.glo_ok X G (c.fact 3 (f := .glo "look_at_tie") rfl), F⟩
  have D_ties_of : DefHere K mg "ties_of" (top 12) := let ⟨fd, F⟩ := c.def_ 4 (d := d_ties_of) rfl; ⟨_, fd, He.glo_ok X G (c.fact 4 (f := .glo "ties_of") rfl), F⟩
  have D_told_of : DefHere K mg "told_of" (top 13) := let ⟨fd, F⟩ := c.def_ 5 (d := d_told_of) rfl; ⟨_, fd, He.glo_ok X G (c.fact 5 (f := .glo "told_of") rfl), F⟩
  have D_sum_of : DefHere K mg "sum_of" (top 14) := let ⟨fd, F⟩ := c.def_ 6 (d := d_sum_of) rfl; ⟨_, fd, He.glo_ok X G (c.fact 6 (f := .glo "sum_of") rfl), F⟩
  have D_web_of : DefHere K mg "web_of" (top 15) := let ⟨fd, F⟩ := c.def_ 7 (d := d_web_of) rfl; ⟨_, fd, He.glo_ok X G (c.fact 7 (f := .glo "web_of") rfl), F⟩
  have D_weights_of : DefHere K mg "weights_of" (top 16) := let ⟨fd, F⟩ := c.def_ 8 (d := d_weights_of) rfl; ⟨_, fd, He.glo_ok X G (c.fact 8 (f := .glo "weights_of") rfl), F⟩
  have D_fits : DefHere K mg "fits" (top 18) := let ⟨fd, F⟩ := c.def_ 9 (d := d_fits) rfl; ⟨_, fd, He.glo_ok X G (c.fact 9 (f := .glo "fits") rfl), F⟩
  have D_ask_stand : DefHere K mg "ask_stand" (top 19) := let ⟨fd, F⟩ := c.def_ 10 (d := d_ask_stand) rfl; ⟨_, fd, He.glo_ok X G (c.fact 10 (f := .glo "ask_stand") rfl), F⟩
  have D_pulled : DefHere K mg "pulled" (top 20) := let ⟨fd, F⟩ := c.def_ 11 (d := d_pulled) rfl; ⟨_, fd, He.glo_ok X G (c.fact 11 (f := .glo "pulled") rfl), F⟩
  have D_turned : DefHere K mg "turned" (top 21) := let ⟨fd, F⟩ := c.def_ 12 (d := d_turned) rfl; ⟨_, fd, He.glo_ok X G (c.fact 12 (f := .glo "turned") rfl), F⟩
  have D_turn : DefHere K mg "turn" (top 22) := let ⟨fd, F⟩ := c.def_ 13 (d := d_turn) rfl; ⟨_, fd, He.glo_ok X G (c.fact 13 (f := .glo "turn") rfl), F⟩
  have D_history : DefHere K mg "history" (top 25) := let ⟨fd, F⟩ := c.def_ 14 (d := d_history) rfl; ⟨_, fd, He.glo_ok X G (c.fact 14 (f := .glo "history") rfl), F⟩
  have D_ask_person : DefHere K mg "ask_person" (top 27) := let ⟨fd, F⟩ := c.def_ 15 (d := d_ask_person) rfl; ⟨_, fd, He.glo_ok X G (c.fact 15 (f := .glo "ask_person") rfl), F⟩
  have D_put_at : DefHere K mg "put_at" (top 28) := let ⟨fd, F⟩ := c.def_ 16 (d := d_put_at) rfl; ⟨_, fd, He.glo_ok X G (c.fact 16 (f := .glo "put_at") rfl), F⟩
  have D_tied_to : DefHere K mg "tied_to" (top 29) := let ⟨fd, F⟩ := c.def_ 17 (d := d_tied_to) rfl; ⟨_, fd, He.glo_ok X G (c.fact 17 (f := .glo "tied_to") rfl), F⟩
  have D_with_tie : DefHere K mg "with_tie" (top 30) := let ⟨fd, F⟩ := c.def_ 18 (d := d_with_tie) rfl; ⟨_, fd, He.glo_ok X G (c.fact 18 (f := .glo "with_tie") rfl), F⟩
  have D_with_bar : DefHere K mg "with_bar" (top 31) := let ⟨fd, F⟩ := c.def_ 19 (d := d_with_bar) rfl; ⟨_, fd, He.glo_ok X G (c.fact 19 (f := .glo "with_bar") rfl), F⟩
  have D_with_stay : DefHere K mg "with_stay" (top 32) := let ⟨fd, F⟩ := c.def_ 20 (d := d_with_stay) rfl; ⟨_, fd, He.glo_ok X G (c.fact 20 (f := .glo "with_stay") rfl), F⟩
  have D_differ : DefHere K mg "differ" (top 33) := let ⟨fd, F⟩ := c.def_ 21 (d := d_differ) rfl; ⟨_, fd, He.glo_ok X G (c.fact 21 (f := .glo "differ") rfl), F⟩
  have D_other_of : DefHere K mg "other_of" (top 34) := let ⟨fd, F⟩ := c.def_ 22 (d := d_other_of) rfl; ⟨_, fd, He.glo_ok X G (c.fact 22 (f := .glo "other_of") rfl), F⟩
  have D_exchanged_stand : DefHere K mg "exchanged_stand" (top 35) := let ⟨fd, F⟩ := c.def_ 23 (d := d_exchanged_stand) rfl; ⟨_, fd, He.glo_ok X G (c.fact 23 (f := .glo "exchanged_stand") rfl), F⟩
  have D_exchanged : DefHere K mg "exchanged" (top 36) := let ⟨fd, F⟩ := c.def_ 24 (d := d_exchanged) rfl; ⟨_, fd, He.glo_ok X G (c.fact 24 (f := .glo "exchanged") rfl), F⟩
  have D__law_state : DefHere K mg "_law_state" (top 38) := let ⟨fd, F⟩ := c.def_ 25 (d := d__law_state) rfl; ⟨_, fd, He.glo_ok X G (c.fact 25 (f := .glo "_law_state") rfl), F⟩
  have D__law_digit : DefHere K mg "_law_digit" (top 39) := let ⟨fd, F⟩ := c.def_ 26 (d := d__law_digit) rfl; ⟨_, fd, He.glo_ok X G (c.fact 26 (f := .glo "_law_digit") rfl), F⟩
  have D__law_bar : DefHere K mg "_law_bar" (top 40) := let ⟨fd, F⟩ := c.def_ 27 (d := d__law_bar) rfl; ⟨_, fd, He.glo_ok X G (c.fact 27 (f := .glo "_law_bar") rfl), F⟩
  have D__law_people : DefHere K mg "_law_people" (top 41) := let ⟨fd, F⟩ := c.def_ 28 (d := d__law_people) rfl; ⟨_, fd, He.glo_ok X G (c.fact 28 (f := .glo "_law_people") rfl), F⟩
  have D__law_stand : DefHere K mg "_law_stand" (top 42) := let ⟨fd, F⟩ := c.def_ 29 (d := d__law_stand) rfl; ⟨_, fd, He.glo_ok X G (c.fact 29 (f := .glo "_law_stand") rfl), F⟩
  have D__law_old : DefHere K mg "_law_old" (top 43) := let ⟨fd, F⟩ := c.def_ 30 (d := d__law_old) rfl; ⟨_, fd, He.glo_ok X G (c.fact 30 (f := .glo "_law_old") rfl), F⟩
  have D__law_for_ones : DefHere K mg "_law_for_ones" (top 44) := let ⟨fd, F⟩ := c.def_ 31 (d := d__law_for_ones) rfl; ⟨_, fd, He.glo_ok X G (c.fact 31 (f := .glo "_law_for_ones") rfl), F⟩
  have D__law_apart : DefHere K mg "_law_apart" (top 45) := let ⟨fd, F⟩ := c.def_ 32 (d := d__law_apart) rfl; ⟨_, fd, He.glo_ok X G (c.fact 32 (f := .glo "_law_apart") rfl), F⟩
  have D_law : DefHere K mg "law" (top 46) := let ⟨fd, F⟩ := c.def_ 33 (d := d_law) rfl; ⟨_, fd, He.glo_ok X G (c.fact 33 (f := .glo "law") rfl), F⟩
  have z : Blt mg := ⟨He.free_ok X G (c.fact 40 (f := .free "isinstance") rfl), He.free_ok X G (c.fact 41 (f := .free "int") rfl), He.free_ok X G (c.fact 42 (f := .free "bool") rfl), He.free_ok X G (c.fact 43 (f := .free "tuple") rfl), He.free_ok X G (c.fact 44 (f := .free "list") rfl), He.free_ok X G (c.fact 45 (f := .free "str") rfl), He.free_ok X G (c.fact 46 (f := .free "dict") rfl), He.free_ok X G (c.fact 47 (f := .free "len") rfl), He.free_ok X G (c.fact 48 (f := .free "sum") rfl), He.free_ok X G (c.fact 49 (f := .free "range") rfl), He.free_ok X G (c.fact 50 (f := .free "sorted") rfl), He.free_ok X G (c.fact 51 (f := .free "zip") rfl), He.free_ok X G (c.fact 52 (f := .free "enumerate") rfl), He.free_ok X G (c.fact 53 (f := .free "all") rfl), He.free_ok X G (c.fact 54 (f := .free "any") rfl), He.free_ok X G (c.fact 55 (f := .free "max") rfl), He.free_ok X G (c.fact 56 (f := .free "min") rfl), He.free_ok X G (c.fact 57 (f := .free "abs") rfl), He.free_ok X G (c.fact 58 (f := .free "repr") rfl), He.free_ok X G (c.fact 59 (f := .free "set") rfl), He.free_ok X G (c.fact 60 (f := .free "ValueError") rfl)⟩
  have x_NoWeb : ExcK K mg "NoWeb" := he_exc X G (c.fact 34 (f := .glo "NoWeb") rfl) (c.fact 35 (f := .exc "NoWeb") rfl)
  have x_NoStand : ExcK K mg "NoStand" := he_exc X G (c.fact 36 (f := .glo "NoStand") rfl) (c.fact 37 (f := .exc "NoStand") rfl)
  have x_TooLong : ExcK K mg "TooLong" := he_exc X G (c.fact 38 (f := .glo "TooLong") rfl) (c.fact 39 (f := .exc "TooLong") rfl)
  have i_MOST_WEIGHT : GInt mg "MOST_WEIGHT" 400 := He.int_ok X G (c.fact 61 (f := .int "MOST_WEIGHT" 400) rfl)
  have i_MOST_PEOPLE : GInt mg "MOST_PEOPLE" 30 := He.int_ok X G (c.fact 62 (f := .int "MOST_PEOPLE" 30) rfl)
  have i_MOST_TURNS : GInt mg "MOST_TURNS" 400 := He.int_ok X G (c.fact 63 (f := .int "MOST_TURNS" 400) rfl)
  obtain ⟨fd, F⟩ := c.def_ 33 (d := d_law) rfl
  have e := hfa0.symm.trans (He.glo_ok X G (c.fact 33 (f := .glo "law") rfl))
  cases e
  have b := FunD.bindsA (ps := ["_law_script"]) F fun _ _ _ _ _ _ us hl => match us, hl with | [_], _ => rfl
  refine ⟨fd, fun s v => b s [v] rfl, fun base _ _ => ?_⟩
  · 
    have G_is_whole : KnP P w K mg base "is_whole" 1 ["thing"] m_is_whole := k_is_whole z D_is_whole 
    have G_is_among : KnP P w K mg base "is_among" 2 ["thing", "low", "high"] m_is_among := k_is_among z D_is_among G_is_whole
    have G_is_stay : KnP P w K mg base "is_stay" 3 ["thing"] m_is_stay := k_is_stay z D_is_stay G_is_among
    have G_look_at_tie : KnM P w K mg base "look_at_tie" 3 ["tie", "beside"] m_look_at_tie := k_look_at_tie z D_look_at_tie G_is_among x_NoWeb i_MOST_WEIGHT
    have G_ties_of : KnP P w K mg base "ties_of" 4 ["many", "ties"] m_ties_of := k_ties_of z D_ties_of G_is_among G_look_at_tie x_NoWeb i_MOST_PEOPLE
    have G_told_of : KnP P w K mg base "told_of" 4 ["some", "many", "is_one"] m_told_of := k_told_of z D_told_of G_is_whole G_is_stay x_NoWeb
    have G_sum_of : KnP P w K mg base "sum_of" 1 ["some"] m_sum_of := k_sum_of z D_sum_of 
    have G_web_of : KnP P w K mg base "web_of" 5 ["many", "ties", "bars", "stays"] m_web_of := k_web_of z D_web_of G_ties_of G_sum_of G_is_whole G_told_of G_is_stay
    have G_weights_of : KnP P w K mg base "weights_of" 2 ["web", "person"] m_weights_of := k_weights_of z D_weights_of G_sum_of
    have G_fits : KnP P w K mg base "fits" 3 ["web", "thing"] m_fits := k_fits z D_fits G_is_among
    have G_ask_stand : KnP P w K mg base "ask_stand" 4 ["web", "thing"] m_ask_stand := k_ask_stand z D_ask_stand G_fits x_NoStand
    have G_pulled : KnP P w K mg base "pulled" 1 ["web", "stand", "person"] m_pulled := k_pulled z D_pulled 
    have G_turned : KnP P w K mg base "turned" 2 ["web", "stand", "person"] m_turned := k_turned z D_turned G_pulled
    have G_turn : KnP P w K mg base "turn" 5 ["web", "stand"] m_turn := k_turn z D_turn G_ask_stand G_turned
    have G_history : KnP P w K mg base "history" 6 ["web", "stand", "turns"] m_history := k_history z D_history G_ask_stand G_turn x_TooLong i_MOST_TURNS
    have G_ask_person : KnP P w K mg base "ask_person" 3 ["web", "person"] m_ask_person := k_ask_person z D_ask_person G_is_among x_NoWeb
    have G_put_at : KnP P w K mg base "put_at" 1 ["some", "place", "thing"] m_put_at := k_put_at z D_put_at 
    have G_tied_to : KnP P w K mg base "tied_to" 1 ["some", "other", "weight"] m_tied_to := k_tied_to z D_tied_to 
    have G_with_tie : KnP P w K mg base "with_tie" 4 ["web", "one", "other", "weight"] m_with_tie := k_with_tie z D_with_tie G_ask_person G_is_among G_tied_to G_put_at x_NoWeb i_MOST_WEIGHT
    have G_with_bar : KnP P w K mg base "with_bar" 4 ["web", "person", "bar"] m_with_bar := k_with_bar z D_with_bar G_ask_person G_is_whole G_put_at x_NoWeb
    have G_with_stay : KnP P w K mg base "with_stay" 4 ["web", "person", "stay"] m_with_stay := k_with_stay z D_with_stay G_ask_person G_is_stay G_put_at x_NoWeb
    have G_differ : KnP P w K mg base "differ" 7 ["web", "stand", "other", "beyond", "turns"] m_differ := k_differ z D_differ G_history
    have G_other_of : KnP P w K mg base "other_of" 1 ["held"] m_other_of := k_other_of z D_other_of 
    have G_exchanged_stand : KnP P w K mg base "exchanged_stand" 2 ["stand"] m_exchanged_stand := k_exchanged_stand z D_exchanged_stand G_other_of
    have G_exchanged : KnP P w K mg base "exchanged" 3 ["web"] m_exchanged := k_exchanged z D_exchanged G_weights_of G_exchanged_stand
    have G__law_state : KnP P w K mg base "_law_state" 1 ["_law_script", "_law_k"] m__law_state := k__law_state z D__law_state 
    have G__law_digit : KnM P w K mg base "_law_digit" 1 ["_law_state_here", "_law_most"] m__law_digit := k__law_digit z D__law_digit 
    have G__law_bar : KnP P w K mg base "_law_bar" 1 ["_law_kind", "_law_number", "_law_total"] m__law_bar := k__law_bar z D__law_bar 
    have G__law_people : KnP P w K mg base "_law_people" 2 ["_law_script"] m__law_people := k__law_people z D__law_people G__law_state G__law_digit G__law_bar
    have G__law_stand : KnP P w K mg base "_law_stand" 2 ["_law_script", "_law_k", "_law_stays"] m__law_stand := k__law_stand z D__law_stand G__law_state G__law_digit
    have G__law_old : KnP P w K mg base "_law_old" 1 ["_law_ties", "_law_one", "_law_other"] m__law_old := k__law_old z D__law_old 
    have G__law_for_ones : KnM P w K mg base "_law_for_ones" 5 ["_law_told", "_law_web", "_law_stand_here", "_law_state_here"] m__law_for_ones := k__law_for_ones z D__law_for_ones G__law_digit G__law_old G_with_tie G_with_bar G_with_stay
    have G__law_apart : KnP P w K mg base "_law_apart" 6 ["_law_web", "_law_stand_here", "_law_other", "_law_beyond", "_law_turns"] m__law_apart := k__law_apart z D__law_apart G_turn
    exact ok_law z F G__law_people G_web_of G__law_stand G__law_state G__law_digit G__law_for_ones G__law_apart G_differ G_exchanged_stand G_exchanged
end R
open PySem PySem.W PySem.Calls PyProof.Rows
theorem PySem.Challenge.cw_followmost_k47_whole_changes_for_ones_holds : PySem.Challenge.rw_followmost_k47_whole_changes_for_ones.Holds := by
  w_on; o_law
  refine HandSHeadRun.head_any (r := OpenLaw.row PySem.Challenge.rw_followmost_k47_whole_changes_for_ones) (q := view (OpenLaw.row PySem.Challenge.rw_followmost_k47_whole_changes_for_ones).prog [46]) (H := R.hk) (ob := R.hob) (M := 20000) (loose := ((["MostError", "NoWeb", "NoStand", "TooLong", "is_whole", "is_among", "is_stay", "look_at_tie", "ties_of", "told_of", "sum_of", "web_of", "weights_of", "fits", "ask_stand", "pulled", "turned", "turn", "history", "ask_person", "put_at", "tied_to", "with_tie", "with_bar", "with_stay", "differ", "other_of", "exchanged_stand", "exchanged", "_law_state"] : List Str) ++ (["_law_digit", "_law_bar", "_law_people", "_law_stand", "_law_old", "_law_for_ones", "_law_apart", "MOST_PEOPLE", "MOST_WEIGHT", "MOST_TURNS"] : List Str))) (d := HandSHeadRun.topDef (OpenLaw.row PySem.Challenge.rw_followmost_k47_whole_changes_for_ones).prog 46) (kwd := []) R.hob_eq
    (by kernel_rfl) (fun s => by kernel_rfl) R.hrun (by kernel_rfl) (by kernel_rfl) (by kernel_rfl) (by rfl) (by first | assumption | decide +kernel) (by decide +kernel) ⟨rfl, rfl, rfl, rfl, rfl, by decide +kernel⟩ ?hw ?hc
  case hw => w_witness2
  case hc =>
    refine LamX.walk_ofTsE (l := PySem.Challenge.rw_followmost_k47_whole_changes_for_ones) (n := 63) (k := 8) (x := "_law_script") (CX := fun w => L2.CX (PySem.Challenge.rw_followmost_k47_whole_changes_for_ones).prog w) rfl (by decide) (by kernel_rfl) ⟨rfl, by decide, by decide⟩ ?F (fun _ _ _ _ _ h => R.cx_none h)
    intro w mg fa h Y G hmg0
    obtain ⟨K, KX, c⟩ := Y
    have hmg : mg ("law" : PySem.Str) = some (.ref fa) := by
      have e : (HandSHeadRun.topDef (OpenLaw.row PySem.Challenge.rw_followmost_k47_whole_changes_for_ones).prog 46).name = ("law" : PySem.Str) := by kernel_rfl
      rw [← e]
      exact hmg0
    obtain ⟨fd, hb, hF⟩ := R.hfacts (P := (PySem.Challenge.rw_followmost_k47_whole_changes_for_ones).prog) (w := w) KX G hmg c
    exact ⟨K, KX, R.law_at hb hF fun ns hl hz => R.law_true ns hl hz⟩
